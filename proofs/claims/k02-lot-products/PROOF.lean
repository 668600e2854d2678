import PyProof.Rows.All
import Wide.All
import OpenK.AllK
import Wide.FinOn
import HandS.Head2
import HandS.HeadEnd
import HandS.HeadHook2
import HandS.Words
import HandS.Defaults
import HandS.ForMost
import HandS.Exc
import HandS.ExcOwn
import HandS.TryMany
import HandS.TryOnly
import HandS.WordsExc
import HandS.Property
import HandS.IsInst
import HandS.Style
import HandS.IterVal
import HandS.Flow
import HandS.SortInts
import HandS.Strs
import HandS.Wide
import KE.KOpsOwn
import KE.KExcSuper
import HandS.ExcInit
import HandS.ExcField
import HandS.ExcIs
import HandS.Zip
import HandS.Iter
import HandS.Conv
import PySem.Challenge.RW_beatswatched_k02_lot_products
set_option Elab.async false
set_option linter.all false
set_option maxRecDepth 100000
set_option maxHeartbeats 4000000
namespace Bw
open PySem PySem.Spec PyProof.Rows L2
/-- a def told by where it stands -/
structure DX where
  pl : PySem.W.Frag → Addr
  nm : Str
  qn : Str
  st : Stmt
  cl : List Str := []
abbrev FnW : Type := Option (Str × Str × Arguments × FuncBody × Scope × Addr × List Str × Addr)
abbrev DX.val (d : DX) : FnW :=
  some (d.nm, d.qn, defArgs d.st, .stmts (defBody d.st), defScope d.st, mainGlobals, d.cl, builtinsNs)
/-- what the written part has at that place -/
def seenAt (K : PySem.W.Frag) (a : Addr) : FnW :=
  match K.lookup a with
  | some o => (match o.data with
    | .func fd => some (fd.name, fd.qualname, fd.params, fd.body, fd.scope, fd.globals, fd.closure.map (·.1), fd.builtins)
    | _ => none)
  | none => none
def codeOkAt (K : PySem.W.Frag) (a : Addr) (q : Str) : Bool :=
  PySem.W.keepIn K (.ref a) && (match K.lookup a with
    | some o => (match o.data with
      | .func fd => PySem.W.codeIn K fd.code q && (match fd.defaults with | .none => true | _ => false)
      | _ => false)
    | none => false)
/-- a def of no default, as it stands -/
abbrev FnX (K : PySem.W.Frag) (d : DX) (fd : FuncData) : Prop := Fun K d.nm d.qn d.st (d.pl K) fd
theorem funX {K : PySem.W.Frag} {d : DX} (hc : d.cl = []) (h1 : seenAt K (d.pl K) = d.val) (h2 : codeOkAt K (d.pl K) d.qn = true) : ∃ fd, FnX K d fd := by
  obtain ⟨kp, c⟩ := He.ba h2
  unfold seenAt at h1
  cases e : K.lookup (d.pl K) with
  | none => rw [e] at c; cases c
  | some o =>
    obtain ⟨oc, od, dt, osl⟩ := o
    rw [e] at c h1
    cases dt with
    | func fd =>
      obtain ⟨n1, n2, n3, n4, n5, n6, n7, n8, n9, n10, n11, n12, n13, n14, n15⟩ := fd
      simp only [DX.val, Option.some.injEq, Prod.mk.injEq] at h1
      obtain ⟨h1, h2, h3, h4, h5, h6, h7, h8⟩ := h1
      rw [hc] at h7
      have h7 := List.map_eq_nil_iff.mp h7
      subst h1 h2 h3 h4 h5 h6 h7 h8
      obtain ⟨k1, k2⟩ := He.ba c
      cases n8 with
      | none => exact ⟨_, ⟨oc, od, n9, n10, n11, n12, n13, n14, osl, rfl, e, k1⟩, kp⟩
      | _ => cases k2
    | _ => cases c
abbrev AlX : Type := Bool × List FnW
def obsX (fx : PySem.W.Frag → Bool) (fn : List DX) (K : PySem.W.Frag) : AlX :=
  (fx K && fn.all fun d => codeOkAt K (d.pl K) d.qn, fn.map fun d => seenAt K (d.pl K))
def valX (fn : List DX) : AlX := (true, fn.map DX.val)
def SaysX (fx : PySem.W.Frag → Bool) (fn : List DX) (K : PySem.W.Frag) : Prop := obsX fx fn K = valX fn
def obsXG (n : Nat) (fx : PySem.W.Frag → Bool) (fn : List DX) (g : Addr → Option Obj) : AlX := obsX fx fn (He.frG g (cStatics :: He.asD g n))
def hookX (n : Nat) (fx : PySem.W.Frag → Bool) (fn : List DX) : PySem.W.Hook where
  α := AlX
  obs s := obsXG n fx fn s.heap.get?
  val _ := valX fn
  says _ h := ∃ K : PySem.W.Frag, K.In h ∧ SaysX fx fn K
  of _ _ e := ⟨_, He.frG_in, e⟩
  keeps := fun _ _ _ q k => q.elim fun K c => ⟨K, PySem.W.Frag.In.keeps c.1 k, c.2⟩
theorem obsXG_eq {n : Nat} {fx : PySem.W.Frag → Bool} {fn : List DX} {g : Addr → Option Obj} {s : Shared}
    (h : ∀ a, g a = s.heap.get? a) : obsXG n fx fn g = (hookX n fx fn).obs s := by
  rw [show g = s.heap.get? from funext h] <;> rfl
section
variable {fx : PySem.W.Frag → Bool} {fn : List DX} {K : PySem.W.Frag}
theorem SaysX.facts (c : SaysX fx fn K) : fx K = true :=
  (He.ba (show (fx K && fn.all fun d => codeOkAt K (d.pl K) d.qn) = true from congrArg Prod.fst c)).1
theorem SaysX.seen (c : SaysX fx fn K) (i : Nat) {d : DX} (h : fn[i]? = some d) : seenAt K (d.pl K) = d.val ∧ codeOkAt K (d.pl K) d.qn = true := by
  have c2 := (He.ba (show (fx K && fn.all fun d => codeOkAt K (d.pl K) d.qn) = true from congrArg Prod.fst c)).2
  have e2 := congrArg (fun l : List FnW => l[i]?) (show (fn.map fun d => seenAt K (d.pl K)) = fn.map DX.val from congrArg Prod.snd c)
  simp only [List.getElem?_map, h, Option.map_some, Option.some.injEq] at e2
  exact ⟨e2, List.all_eq_true.mp c2 d (List.mem_of_getElem? h)⟩
theorem SaysX.def_ (c : SaysX fx fn K) (i : Nat) {d : DX} (h : fn[i]? = some d) (hc : d.cl = [] := by rfl) : ∃ fd, FnX K d fd := by
  obtain ⟨h1, h2⟩ := c.seen i h
  exact funX hc h1 h2
end
end Bw

namespace Bw
open PySem PySem.Spec PyProof.Rows L2
theorem not_ni {x : V} {u : Value} (r : RelV x u) : u ≠ .notImplemented := by
  intro e
  subst e
  cases x with
  | non => exact nomatch (show Value.notImplemented = Value.none from r)
  | bl b => exact nomatch (show Value.notImplemented = Value.bool b from r)
  | int i => obtain ⟨t, q⟩ := (show ∃ t, Value.notImplemented = Value.int i t from r); cases q
  | str i => obtain ⟨t, q⟩ := (show ∃ t, Value.notImplemented = Value.str i t from r); cases q
  | byt i => obtain ⟨t, q⟩ := (show ∃ t, Value.notImplemented = Value.bytes i t from r); cases q
  | flt i => obtain ⟨t, q⟩ := (show ∃ t, Value.notImplemented = Value.float i t from r); cases q
  | ref a => exact nomatch (show Value.notImplemented = Value.ref a from r)
  | ty n => exact nomatch (show Value.notImplemented = Value.type n from r)
theorem cmp_back {Q : Value → Shared → Prop} {u : Value} {s : Shared} (h : u ≠ .notImplemented) (q : Q u s) : PySem.W.CmpBack Q u s := by
  cases u <;> first | exact q | exact absurd rfl h
/-- what the written part says of an operator's method -/
structure OpF (K : PySem.W.Frag) (C : Addr) (nm : String) (f : Addr) : Prop where
  self : PySem.W.selfFirst K C = true
  at_ : PySem.W.findIn K (.ref C) (PySem.dunder nm) = some (some (.ref f))
  fn : PySem.W.isFn K (.ref f) = true
  rr : ∃ rc, PySem.W.findIn K (.ref C) (PySem.dunderR nm) = some rc ∧ (rc = none ∨ ∃ g : Addr, rc = some (.ref g))
  sub : PySem.W.subIn K (.type "int") (.ref C) = some false
def refO : Option (Option Value) → Bool
  | some none => true
  | some (some (.ref _)) => true
  | _ => false
def opFB (K : PySem.W.Frag) (C : Addr) (nm : String) : Bool :=
  PySem.W.selfFirst K C && (He.eqO (PySem.W.findIn K (.ref C) (PySem.dunder nm)) (some (some (.ref (He.ma K C (PySem.dunder nm))))) && (PySem.W.isFn K (.ref (He.ma K C (PySem.dunder nm))) &&
    (refO (PySem.W.findIn K (.ref C) (PySem.dunderR nm)) && decide (PySem.W.subIn K (.type "int") (.ref C) = some false))))
theorem opF_ok {K : PySem.W.Frag} {C : Addr} {nm : String} (h : opFB K C nm = true) : OpF K C nm (He.ma K C (PySem.dunder nm)) := by
  obtain ⟨h1, h⟩ := He.ba h
  obtain ⟨h2, h⟩ := He.ba h
  obtain ⟨h3, h⟩ := He.ba h
  obtain ⟨h4, h5⟩ := He.ba h
  refine ⟨h1, He.eqO_ok h2, h3, ?_, of_decide_eq_true h5⟩
  cases e : PySem.W.findIn K (.ref C) (PySem.dunderR nm) with
  | none => rw [e] at h4; cases h4
  | some r =>
    rw [e] at h4
    cases r with
    | none => exact ⟨_, rfl, .inl rfl⟩
    | some v =>
      cases v with
      | ref g => exact ⟨_, rfl, .inr ⟨g, rfl⟩⟩
      | _ => cases h4
/-- what a def's call asks: it stands, it has room, its arguments bind, what leaves it is wished -/
structure Call1 (X : Cx) (W : WX) (k : Nat) (f : Addr) (sp : Sp) : Prop where
  ex : ∃ (fd : FuncData) (ps : List Str), FnOk X.prog X.w X.K X.mg X.base (L2.CX X.prog X.w) k f fd ps sp ∧ Binds X.K fd ps []
  room : Room k X.A
  tk : Takes X W
section
variable {X : Cx} {W : WX} {k : Nat} {f g C : Addr} {sp : Sp} {a b o e : Expr} {es : List Expr} {ta tb : TE} {t : TA} {pos apos p : Pos} {pins : List (Addr × Obj)} {σ : L2.St} {H : Hp} {s : Shared} {Q : VK} {nm : String} {m x : Str}
theorem Call1.run (G : Call1 X W k f sp) {vs : List V} {us : List Value} (I : Inv X pins σ H s) (r : Vals vs us) (h : sp vs H Q (WE W σ)) :
    wpAny (model X.prog X.w) X.A (call (.ref f) us) (EP X pins σ Q) X.xe s := by
  obtain ⟨fd, ps, F, B⟩ := G.ex
  exact run_fnS (E := WE W) F G.room B (passAt G.tk σ) I r h
theorem Call1.back (G : Call1 X W k f sp) {vs : List V} {us : List Value} (I : Inv X pins σ H s) (r : Vals vs us) (h : sp vs H Q (WE W σ)) :
    wpAny (model X.prog X.w) X.A (call (.ref f) us) (PySem.W.CmpBack (EP X pins σ Q)) X.xe s :=
  wpAny_mono (G.run I r h) (fun u s' q => cmp_back (by obtain ⟨v, _, _, rv, _⟩ := q; exact not_ni rv) q) fun _ _ z => z
/-- f(e, ..) -/
def tC1 (sp : Sp) (W : WX) (t : TA) : TE := fun σ H Q => t σ H fun vs H1 => sp vs H1 Q (WE W σ)
theorem pe_c1 (G : Call1 X W k f sp) (hm : X.mg x = some (.ref f)) (hk : PySem.W.keepIn X.K (.ref f) = true) (hg : Gl X x) (ha : PA X (e :: es) t) (hdb : (x == ("__debug__" : Str)) = false := by decide)
    (he : starEach (e :: es) X.env = (false, eval e X.env) :: starEach es X.env := by rfl) (hpl : (backTo pos (starEach es X.env)).any (·.1) = false := by rfl) : PE X (.Call (.Name x p) (e :: es) [] pos) (tC1 sp W t) := by
  refine ⟨fun pins s σ H Q I h => ?_⟩
  refine wpAny_Call_Name_kw (ld_glob I hg hm ?_ hdb)
  refine PySem.W.callWith_K (h₀ := X.base) I.ok.mod.kin hk ?_ he hpl
  refine thn (ha.run pos pins s σ H _ I h) fun us s1 hh => ?_
  obtain ⟨vs, H1, I1, r, q⟩ := hh
  exact ⟨I1.kIn, G.run I1 r q⟩
/-- a op b, a an instance of the class at C with that operator; b of the class too -/
def tBinI (C : Addr) (sp : Sp) (W : WX) (ta tb : TE) : TE := fun σ H Q => ta σ H fun x H1 => tb σ H1 fun y H2 =>
  ∃ a dx fs b dy gs, x = .ref a ∧ H2 a = some (.ins C dx fs) ∧ y = .ref b ∧ H2 b = some (.ins C dy gs) ∧ sp [x, y] H2 Q (WE W σ)
/-- .. b an int -/
def tBinN (C : Addr) (sp : Sp) (W : WX) (ta tb : TE) : TE := fun σ H Q => ta σ H fun x H1 => tb σ H1 fun y H2 =>
  ∃ a dx fs i, x = .ref a ∧ H2 a = some (.ins C dx fs) ∧ y = .int i ∧ sp [x, y] H2 Q (WE W σ)
theorem inst_at (I : Inv X pins σ H s) {a dx : Addr} {fs : List (Str × V)} (h : H a = some (.ins C dx fs)) : ∃ od, PySem.W.InstAt s.heap a (PySem.W.instObj C dx) C (some od) := by
  obtain ⟨mA, J, _⟩ := ins_get I.hok h
  obtain ⟨od, J, _⟩ := J.look
  exact ⟨od, J⟩
theorem pe_binI {op : Operator} (O : OpF X.K C op.info.2 f) (G : Call1 X W k f sp) (ha : PE X a ta) (hb : PE X b tb) : PE X (.BinOp a op b pos) (tBinI C sp W ta tb) := by
  refine ⟨fun pins s σ H Q I h => ?_⟩
  refine wpAny_BinOp (binT ha hb I h fun v u s2 x y H2 I2 rx ry q => ?_)
  obtain ⟨a, dx, fs, b, dy, gs, rfl, h1, rfl, h2, q⟩ := q
  cases rx; cases ry
  obtain ⟨od, J⟩ := inst_at I2 h1
  obtain ⟨od', J'⟩ := inst_at I2 h2
  obtain ⟨m, hF⟩ := I2.fr
  exact PySem.W.binop_K hF I2.ok.mod.kin J J'.type O.self O.at_ O.fn (G.back (vs := [.ref a, .ref b]) I2 (.cons rfl (.cons rfl .nil)) q)
theorem pe_binN {op : Operator} (O : OpF X.K C op.info.2 f) (G : Call1 X W k f sp) (h1 : (fastLookup "int" (PySem.dunder op.info.2)).isSome = true) (h2 : (fastLookup "int" (PySem.dunderR op.info.2)).isSome = true)
    (ha : PE X a ta) (hb : PE X b tb) : PE X (.BinOp a op b pos) (tBinN C sp W ta tb) := by
  refine ⟨fun pins s σ H Q I h => ?_⟩
  refine wpAny_BinOp (binT ha hb I h fun v u s2 x y H2 I2 rx ry q => ?_)
  obtain ⟨a, dx, fs, i, rfl, h3, rfl, q⟩ := q
  cases rx
  obtain ⟨tk, rfl⟩ := (show ∃ t, u = Value.int i t from ry)
  obtain ⟨od, J⟩ := inst_at I2 h3
  obtain ⟨m, hF⟩ := I2.fr
  obtain ⟨rc, r1, r2⟩ := O.rr
  obtain ⟨fo, h1⟩ := Option.isSome_iff_exists.mp h1
  obtain ⟨ro, h2⟩ := Option.isSome_iff_exists.mp h2
  exact PySem.W.ksp_binT (T := "int") hF I2.ok.mod.kin J rfl O.self O.at_ O.fn r1 r2 h1 h2 O.sub (G.back (vs := [.ref a, .int i]) I2 (.cons rfl (.cons ⟨tk, rfl⟩ .nil)) q)
/-- -a, ~a -/
def tUnI (C : Addr) (sp : Sp) (W : WX) (ta : TE) : TE := fun σ H Q => ta σ H fun x H1 => ∃ a dx fs, x = .ref a ∧ H1 a = some (.ins C dx fs) ∧ sp [x] H1 Q (WE W σ)
theorem pe_negI (h1 : PySem.W.findIn X.K (.ref C) "__neg__" = some (some (.ref f))) (h2 : PySem.W.isFn X.K (.ref f) = true) (G : Call1 X W k f sp) (ha : PE X a ta) : PE X (.UnaryOp .USub a pos) (tUnI C sp W ta) := by
  refine ⟨fun pins s σ H Q I h => ?_⟩
  refine UnaryOp_ (thn (ha.run pins s σ H _ I h) fun v s1 hh => ?_)
  obtain ⟨x, H1, I1, r1, a, dx, fs, rfl, h3, q⟩ := hh
  cases r1
  obtain ⟨od, J⟩ := inst_at I1 h3
  obtain ⟨m, hF⟩ := I1.fr
  exact PySem.W.ksp_neg hF I1.ok.mod.kin J h1 h2 (G.run (vs := [.ref a]) I1 (.cons rfl .nil) q)
theorem pe_invI (h1 : PySem.W.findIn X.K (.ref C) "__invert__" = some (some (.ref f))) (h2 : PySem.W.isFn X.K (.ref f) = true) (G : Call1 X W k f sp) (ha : PE X a ta) : PE X (.UnaryOp .Invert a pos) (tUnI C sp W ta) := by
  refine ⟨fun pins s σ H Q I h => ?_⟩
  refine UnaryOp_ (thn (ha.run pins s σ H _ I h) fun v s1 hh => ?_)
  obtain ⟨x, H1, I1, r1, a, dx, fs, rfl, h3, q⟩ := hh
  cases r1
  obtain ⟨od, J⟩ := inst_at I1 h3
  obtain ⟨m, hF⟩ := I1.fr
  exact PySem.W.ksp_inv hF I1.ok.mod.kin J h1 h2 (G.run (vs := [.ref a]) I1 (.cons rfl .nil) q)
/-- o.m(..) -/
def tM1 (C : Addr) (m : Str) (sp : Sp) (W : WX) (ta : TE) (t : TA) : TE := fun σ H Q => ta σ H fun x H1 => ∃ a dx fs, x = .ref a ∧ H1 a = some (.ins C dx fs) ∧ fs.lookup m = none ∧ t σ H1 fun vs H2 => sp (.ref a :: vs) H2 Q (WE W σ)
theorem pe_m1 {pl : Sem Bool} (c : Cls X.K C) (hm : Meth X.K C m f) (G : Call1 X W k f sp) (he : PE X o ta) (ha : PA X (e :: es) t)
    (hst : starEach (e :: es) X.env = (false, eval e X.env) :: starEach es X.env := by rfl) (hpl : (backTo pos (starEach es X.env)).any (·.1) = false := by rfl)
    (ht : eval (.Call (.Attribute o m apos) (e :: es) [] pos) X.env = (do
      let ov ← eval o X.env
      standAt apos.atName
      let (f, first) ← holding [ov] (getMethod ov m pl)
      callWith pos f first (backTo pos (starEach (e :: es) X.env)) (backToKw pos (keywordEach [] X.env))) := by rfl) :
    PE X (.Call (.Attribute o m apos) (e :: es) [] pos) (tM1 C m sp W ta t) := by
  refine ⟨fun pins s σ H Q I h => ?_⟩
  refine PySem.W.methodCall_KW (pl := pl) (thn (he.run pins s σ H _ I h) fun u s1 hh => ?_) ht
  obtain ⟨x, H1, I1, rx, a, dx, fs, rfl, ea, l, q⟩ := hh
  obtain rfl : u = Value.ref a := rx
  refine getmeth_ok I1 ea c hm l ?_
  refine PySem.W.callWith_K (first := [.ref a]) (h₀ := X.base) I.ok.mod.kin hm.kp (thn (ha.run pos pins s1 σ H1 _ I1 q) fun us s2 hh => ?_) hst hpl
  obtain ⟨vs, H2, I2, r, q2⟩ := hh
  exact ⟨I2.kIn, G.run (vs := .ref a :: vs) I2 (.cons rfl r) q2⟩
theorem pe_m0 {pl : Sem Bool} (c : Cls X.K C) (hm : Meth X.K C m f) (G : Call1 X W k f sp) (he : PE X o ta)
    (ht : eval (.Call (.Attribute o m apos) [] [] pos) X.env = (do
      let ov ← eval o X.env
      standAt apos.atName
      let (f, first) ← holding [ov] (getMethod ov m pl)
      callWith pos f first (backTo pos (starEach [] X.env)) (backToKw pos (keywordEach [] X.env))) := by rfl) :
    PE X (.Call (.Attribute o m apos) [] [] pos) (tM1 C m sp W ta tNil) := by
  refine ⟨fun pins s σ H Q I h => ?_⟩
  refine PySem.W.methodCall_KW (pl := pl) (thn (he.run pins s σ H _ I h) fun u s1 hh => ?_) ht
  obtain ⟨x, H1, I1, rx, a, dx, fs, rfl, ea, l, q⟩ := hh
  obtain rfl : u = Value.ref a := rx
  refine getmeth_ok I1 ea c hm l ?_
  exact PySem.W.callWith_K0 (first := [.ref a]) I1.kIn hm.kp (G.run (vs := [.ref a]) I1 (.cons rfl .nil) q)
/-- C(e, ..) -/
def tMk1 (C : Addr) (sp : Sp) (W : WX) (t : TA) : TE := fun σ H Q => t σ H fun vs H1 => ∀ x dx, H1 x = none → H1 dx = none → dx ≠ x → sp (.ref x :: vs) (upd (upd H1 dx (.own x)) x (.ins C dx [])) (fun v H2 => v = .non ∧ Q (.ref x) H2) (WE W σ)
theorem Call1.make (M : Mk X.K C f) (G : Call1 X W k f sp) (hr : Room (k + 1) X.A) {vs : List V} {us : List Value} (I : Inv X pins σ H s) (r : Vals vs us)
    (h : ∀ x dx, H x = none → H dx = none → dx ≠ x → sp (.ref x :: vs) (upd (upd H dx (.own x)) x (.ins C dx [])) (fun v H2 => v = .non ∧ Q (.ref x) H2) (WE W σ)) :
    wpAny (model X.prog X.w) X.A (call (.ref C) us) (EP X pins σ Q) X.xe s := by
  obtain ⟨fd, ps, F, B⟩ := G.ex
  have h1 : H (s.heap.objs.size + 1) = none := I.hok.fresh (Nat.le_succ _)
  have h2 : H s.heap.objs.size = none := I.hok.fresh (Nat.le_refl _)
  have hq := h (s.heap.objs.size + 1) s.heap.objs.size h1 h2 (Nat.ne_of_lt (Nat.lt_succ_self _))
  have I2 := Inv.made (C := C) I
  have r2 : Vals (V.ref (s.heap.objs.size + 1) :: vs) (Value.ref (s.heap.objs.size + 1) :: us) := .cons rfl r
  have hl : (Value.ref (s.heap.objs.size + 1) :: us).length = ps.length := by
    rw [← r2.length]
    exact F.len _ _ _ _ hq
  have bb := B _ (Value.ref (s.heap.objs.size + 1) :: us) I2.kIn (by rw [List.append_nil]; exact hl)
  rw [List.append_nil] at bb
  refine wpAny_call (make_map (f := f) I.kIn M.makes M.init (beq_iff_eq.mp M.fn) (codeAny_mono (F.run _ X.stack _ _ ⟨Value.ref (s.heap.objs.size + 1) :: us, []⟩ _ _ _ _ (hr.make C us []) (I2.env0.make C us []) bb r2 hq) fun r s' hq' => ?_))
  cases r with
  | error e =>
    obtain ⟨a, B, H', cls, d, rfl, fl, hok, ub, na, os, ag, hE⟩ := hq'
    exact G.tk _ _ (XE.of_call I2 (W := W) (fun _ _ _ z => z) ⟨a, B, H', cls, d, rfl, fl, hok, ub, na, os, ag, hE⟩)
  | ok fl =>
    cases fl with
    | ret u =>
      obtain ⟨v, H', I3, rv, ev, q3⟩ := I2.after hq'
      subst ev
      exact ⟨rv, ⟨V.ref (s.heap.objs.size + 1), H', I3, rfl, q3⟩⟩
    | next => exact False.elim hq'
    | brk => exact False.elim hq'
    | cont => exact False.elim hq'
theorem pe_mk1 (M : Mk X.K C f) (G : Call1 X W k f sp) (hr : Room (k + 1) X.A) (hm : X.mg x = some (.ref C)) (hg : Gl X x) (ha : PA X (e :: es) t) (hdb : (x == ("__debug__" : Str)) = false := by decide)
    (he : starEach (e :: es) X.env = (false, eval e X.env) :: starEach es X.env := by rfl) (hpl : (backTo pos (starEach es X.env)).any (·.1) = false := by rfl) : PE X (.Call (.Name x p) (e :: es) [] pos) (tMk1 C sp W t) := by
  refine ⟨fun pins s σ H Q I h => ?_⟩
  refine wpAny_Call_Name_kw (ld_glob I hg hm ?_ hdb)
  refine PySem.W.callWith_K (h₀ := X.base) I.ok.mod.kin M.kp (thn (ha.run pos pins s σ H _ I h) fun us s1 hh => ?_) he hpl
  obtain ⟨vs, H1, I1, r, q⟩ := hh
  exact ⟨I1.kIn, Call1.make M G hr I1 r q⟩
end
end Bw

namespace BwM
open PySem PySem.W PySem.Calls PyProof.Rows PySem.HandSPX
/-! ### super().__init__(e) in an own error's __init__, at the machine's level -/
structure ExF (K : Frag) (C fI : Addr) : Prop where
  q : excInitIn K C He.veBase "ValueError.__new__" = true
  vE : ∃ cd, clsIn K C = some cd ∧ refsVE cd.mro = true ∧ cd.hasDict = true
  sa : findIn K (.ref C) "__setattr__" = some (some (.builtin "object.__setattr__"))
  iC : findIn K (.ref C) "__init__" = some (some (.ref fI))
  tI : typeIn K (.ref fI) = some (.type "function")
  sup : ks_superIn K C C "__init__" = some (some (.builtin "ValueError.__init__"))
  sVE : subIn K (.ref C) (.type "ValueError") = some true
  sC : mroIn K C (.ref C) = some true
  tp : nsIn K cStatics "thirdparty.any" = some none
structure ExT (K : Frag) (P : Program) (C fI : Addr) (nm qual : Str) (st : Stmt) (cda cc : Addr) : Prop where
  fn : ∃ (oc : Value) (od : Option Addr) (osl : Array (Option Value)) (kV doc pm : Value) (an : Option Addr) (ct : Value),
    K.lookup fI = some ⟨oc, od, .func (ksFn nm qual (L2.defArgs st) (L2.defBody st) (L2.defScope st) .none kV doc pm an (.ref cda) ct cc), osl⟩
  cd : codeIn K (.ref cda) qual = true
  file : ∃ (oc : Value) (od : Option Addr) (vs : Array Value) (osl : Array (Option Value)) (f : Str) (tf : Tok), K.lookup cda = some ⟨oc, od, .fields vs, osl⟩ ∧ vs[2]? = some (.str f tf) ∧ ((P.main.file : Str) == f) = true
  cell : ∃ (oc : Value) (od : Option Addr) (osl : Array (Option Value)), K.lookup cc = some ⟨oc, od, .cell (some (.ref C)), osl⟩
  top : (P.main.scope.names.lookup ("super" : Str)).isSome = false
/-- what of the module a def's name look asks -/
structure Glb (h : Heap) : Prop where
  g : ∃ mg, h.Ns mainGlobals mg ∧ mg "super" = none
  b : ∃ mb, h.Ns builtinsNs mb ∧ mb "super" = some (.type "super")
abbrev Kp (h h' : Heap) : Prop := ∀ b o, h.get? b = some o → h'.get? b = some o
theorem Glb.kp {h h' : Heap} (G : Glb h) (k : Kp h h') : Glb h' := by
  obtain ⟨⟨mg, g1, g2⟩, mb, b1, b2⟩ := G
  exact ⟨⟨mg, g1.keeps k, g2⟩, mb, b1.keeps k, b2⟩
section
variable {prog : Program} {w : World} {A : Around} {E : Value → Shared → Prop} {s : Shared} {K : Frag} {C fI cda cc x t0 L : Addr} {nm qual : Str} {st : Stmt} {body : List Stmt} {m : Str → Option Value} {ea : Expr} {p0 p1 p2 p3 p4 : Pos} {ar : Arg}
theorem sup_stmt {Q : Flow → Shared → Prop} (Fx : ExF K C fI) (T : ExT K prog C fI nm qual st cda cc) (X : K.In s.heap) (G : Glb s.heap) (hx : s.heap.get? x = some (excO C t0)) (hn : s.heap.Ns L m) (hm : m ar.arg = some (.ref x))
    (hp : ((L2.defArgs st).posonlyargs ++ (L2.defArgs st).args).head? = some ar) (hka : (L2.defScope st).names.lookup ar.arg = some .local) (hks : (L2.defScope st).names.lookup ("super" : Str) = some .globalImplicit) (hkc : (L2.defScope st).names.lookup ("__class__" : Str) = some .free)
    (hk : (L2.defScope st).kind = .function)
    (he : ∀ s1 : Shared, Kp s.heap s1.heap → ∀ Q' : Value → Shared → Prop, (∀ v tk, Q' v { s1 with toks := tk }) → wpAny (model prog w) A (eval ea (ksEnv qual (L2.defScope st) L fI (.ref cda) cc)) Q' E s1)
    (hst : starEach [ea] (ksEnv qual (L2.defScope st) L fI (.ref cda) cc) = [(false, eval ea (ksEnv qual (L2.defScope st) L fI (.ref cda) cc))])
    (hma : ∃ pl : Sem Bool, eval (.Call (.Attribute (.Call (.Name "super" p0) [] [] p1) "__init__" p2) [ea] [] p3) (ksEnv qual (L2.defScope st) L fI (.ref cda) cc) = (do
      let ov ← attributeBase (.Call (.Name "super" p0) [] [] p1) "__init__" (ksEnv qual (L2.defScope st) L fI (.ref cda) cc) (eval (.Call (.Name "super" p0) [] [] p1) (ksEnv qual (L2.defScope st) L fI (.ref cda) cc))
      standAt p2.atName
      let (f, first) ← holding [ov] (getMethod ov "__init__" pl)
      callWith p3 f first (backTo p3 (starEach [ea] (ksEnv qual (L2.defScope st) L fI (.ref cda) cc))) []))
    (hi : interactive (ksEnv qual (L2.defScope st) L fI (.ref cda) cc) = false)
    (hsw : swapsWith (.Call (.Attribute (.Call (.Name "super" p0) [] [] p1) "__init__" p2) [ea] [] p3) none p4.line (ksEnv qual (L2.defScope st) L fI (.ref cda) cc) = pure false)
    (hq : ∀ (h' : Heap) (tk : Nat) (t1 : Addr), (∀ b o, b ≠ x → s.heap.get? b = some o → h'.get? b = some o) → h'.get? x = some (excO C t1) → Q .next { s with heap := h', toks := tk }) :
    PySem.wpAt (model prog w) A (.func body (ksEnv qual (L2.defScope st) L fI (.ref cda) cc)) (exec (.Expr (.Call (.Attribute (.Call (.Name "super" p0) [] [] p1) "__init__" p2) [ea] [] p3) p4) (ksEnv qual (L2.defScope st) L fI (.ref cda) cc)) Q E s := by
  obtain ⟨oc, od, osl, kV, doc, pm, an, ct, lf⟩ := T.fn
  obtain ⟨oc2, od2, vs2, osl2, fl, tf, lc, v2, hfile⟩ := T.file
  obtain ⟨oc3, od3, osl3, lcell⟩ := T.cell
  obtain ⟨pl, hma⟩ := hma
  obtain ⟨cd, hcd, hmro, hdic⟩ := Fx.vE
  have hCo : ∃ oD, s.heap.get? C = some oD ∧ oD.data = .cls cd := by
    unfold clsIn at hcd
    split at hcd
    · rename_i ho
      cases hcd
      exact ⟨_, X _ _ ho, rfl⟩
    · cases hcd
  obtain ⟨oD, hD1, hD2⟩ := hCo
  have hxC : x ≠ C := by
    intro z
    rw [← z, hx] at hD1
    cases hD1
    cases hD2
  obtain ⟨⟨mg, hg1, hg2⟩, mb, hb1, hb2⟩ := G
  obtain ⟨hh, g, d, tk0, os⟩ := s
  refine ks_wpAt_Expr_any ?_ hi hsw
  refine ks_wpAt_MethodCall ?_ hma
  refine ks_wpAt_super_base (env := ksEnv qual (L2.defScope st) L fI (.ref cda) cc) hks hkc (by decide +kernel) rfl (X _ _ lf) rfl hp rfl (X _ _ lc) rfl v2 hfile T.top ?_
  refine ks_loadName_global hk hks (loadGlobal_builtin (env := ksEnv qual (L2.defScope st) L fI (.ref cda) cc) hg1 hg2 hb1 hb2 ⟨rfl, ?_⟩)
  refine wpAny_loadName_free hk hkc rfl ⟨_, X _ _ lcell, rfl⟩ ?_
  refine wpAny_loadName_local hk hka hn hm ?_
  refine ks_wpAny_isType_cls hD1 hD2 ⟨rfl, ?_⟩
  refine ks_wpAny_call_super hD1 hD2 hx rfl (fun c e => by cases e) (looks_mroIn X Fx.sC) (fun h1 so1 k1 => ?_)
  have X1 : K.In h1 := X.keeps k1
  have hx1 := k1 _ _ hx
  have I1 : InstAt h1 x (excO C t0) C none := ⟨hx1, rfl, rfl, trivial⟩
  have hin : Looks (model prog w) h1 (isInstance (.ref x) (.type "ValueError")) true := I1.type.andThen (looks_subIn X1 Fx.sVE)
  have hsup := Fx.sup
  unfold ks_superIn at hsup
  rw [hcd, Option.bind_some] at hsup
  refine kxs_getMethod kxs_ValueError so1 (looks_opaque X1 Fx.tp) (l₀ := cd.mro) ((looks_clsIn X1 hcd).andThen .now) rfl X1 hsup hin hxC (by decide +kernel) ?_
  have k2 : Kp h1 (h1.push (kxs_mw "ValueError.__init__" x)) := fun b o e => Heap.get?_push_of_some _ e
  have u2 : (h1.push (kxs_mw "ValueError.__init__" x)).get? h1.objs.size = some (kxs_mw "ValueError.__init__" x) := Heap.get?_push_at rfl rfl
  refine kxs_callWith (i := "ValueError.__init__") (x := x) (by rw [hst]; rfl) ?_
  rw [hst]
  refine evalArgs_plain (spliced_cons ?_)
  refine he _ (fun b o e => k2 b o (k1 b o e)) _ fun v tk => ?_
  refine spliced_nil ⟨u2, ?_⟩
  have hx2 := k2 _ _ hx1
  have X2 : K.In (h1.push (kxs_mw "ValueError.__init__" x)) := X1.keeps k2
  obtain ⟨nm', N', qn, bs, bm, hdct, sn, sub, ab, col, dd, c0, c1, c2, c3, c5, hC, hT⟩ := excInit_of X2 Fx.q
  refine wpAny_call (codeAny_of_tree ?_)
  show wpAny _ A.in1 (callAny (.ref h1.objs.size) ⟨_, []⟩) _ _ _
  simp only [callAny]
  refine wpAny_bind (wpAny_load u2 ?_)
  simp only [kxs_mw, show (Value.type "method-wrapper" == Value.type "method" || Value.type "method-wrapper" == Value.type "builtin_function_or_method" || Value.type "method-wrapper" == Value.type "method-wrapper") = true by decide, if_true]
  refine KFB.if_so (by decide) ?_
  refine wpAny_bind (check_bound_init F.excBase_ValueError.toExcCallFacts hC hx2 rfl ?_)
  refine wpAny_bind (wpAny_pure (wpAny_pure ?_))
  refine ⟨plainId_quiet F.excBase_ValueError.init.plain _, codeAny_builtin F.excBase_ValueError.initEntry ?_⟩
  refine exc_init_tree (cls := .ref C) (t0 := t0) (dv := none) (c2 := .none) (c3 := .none) (b4 := .bool false) hx2 (by show 1 ≤ sizeLine; decide) (fun h' k' e' t' => ?_)
  exact hq h' tk _ (fun b o hb e => k' b o hb (k2 b o (k1 b o e))) e'

/-- what __init__ leaves of a fresh exception at x: its dict, new, tells the fields -/
structure IniEnd (h h' : Heap) (x C dx : Addr) (mA : Str → Option Value) : Prop where
  keep : ∀ b o, b ≠ x → h.get? b = some o → h'.get? b = some o
  obj : ∃ t1 : Addr, h'.get? x = some { cls := .ref C, dict := some dx, data := .fields #[.ref t1, .none, .none, .none, .bool false, .none] }
  dbig : h.objs.size ≤ dx
  dne : dx ≠ x
  ns : h'.Ns1 dx mA
theorem name_l {M : Model} {name : Str} {scope : Scope} {cl : List (Str × Addr)} {a : Addr} {cd : Value} {y : Str} {pos : Pos} {v : Value} {Q : Value → Shared → Prop} (hn : s.heap.Ns L m) (hv : m y = some v) (h : Q v s)
    (hk : scope.kind = .function) (hl : scope.names.lookup y = some .local) (hd : (y == ("__debug__" : Str)) = false) : wpAny M A (eval (.Name y pos) (envX name scope L a cd cl)) Q E s := wpAny_Name (wpAny_loadName_local hk hl hn hv h) hd
/-- self.f = p, the first field -/
theorem asg_new {name : Str} {scope : Scope} {cl : List (Str × Addr)} {a : Addr} {cdv : Value} {f y : Str} {q1 q2 q3 q4 : Pos} {v : Value} {rest : List Stmt} {Q : Flow → Shared → Prop} (Fx : ExF K C fI) (X : K.In s.heap) (hx : s.heap.get? x = some (excO C t0))
    (hn : s.heap.Ns L m) (hm : m "self" = some (.ref x)) (hy : m y = some v) (hf : findIn K (.ref C) f = some none) (hk : scope.kind = .function) (hl : scope.names.lookup ("self" : Str) = some .local) (hl2 : scope.names.lookup y = some .local) (hd : (y == ("__debug__" : Str)) = false) (hxL : L ≠ x)
    (hsw : swapsWith (.Name y q3) (some (.Attribute (.Name "self" q1) f q2)) q4.line (envX name scope L a cdv cl) = pure false)
    (hq : ∀ h' tk dx, (∀ b o, b ≠ x → s.heap.get? b = some o → h'.get? b = some o) → s.heap.objs.size ≤ dx → dx ≠ x → h'.get? x = some { cls := .ref C, dict := some dx, data := .fields #[.ref t0, .none, .none, .none, .bool false, .none] } →
      h'.Ns1 dx (fun z => if z = f then some v else none) → wpAny (model prog w) A (execs rest (envX name scope L a cdv cl)) Q E { s with heap := h', toks := tk }) :
    wpAny (model prog w) A (execs (.Assign [.Attribute (.Name "self" q1) f q2] (.Name y q3) q4 :: rest) (envX name scope L a cdv cl)) Q E s := by
  obtain ⟨cd, hcd, hmro, hdic⟩ := Fx.vE
  refine wpAny_execs_cons (plainObj_wpAny_Assign_Attribute ?_ hsw)
  refine name_l (v := v) hn hy ?_ hk hl2 hd
  refine name_l (v := .ref x) hn hm ?_ hk hl (by decide +kernel)
  refine set_plain X (ox := excO C t0) (od := none) ⟨hx, rfl, rfl, trivial⟩ Fx.sa ?_
  refine exc_osa X hx hcd hmro hdic hf (fun h₃ tk₃ dx k₃ dn dne hx₃ hn₃ => ?_)
  exact hq h₃ tk₃ dx k₃ dn dne hx₃ hn₃
/-- a further field -/
theorem asg_old {name : Str} {scope : Scope} {cl : List (Str × Addr)} {a dx : Addr} {cdv : Value} {f y : Str} {q1 q2 q3 q4 : Pos} {v : Value} {rest : List Stmt} {Q : Flow → Shared → Prop} {mA : Str → Option Value} {nl : List Str} (Fx : ExF K C fI) (X : K.In s.heap) (hx : s.heap.get? x = some { cls := .ref C, dict := some dx, data := .fields #[.ref t0, .none, .none, .none, .bool false, .none] })
    (hA : s.heap.Ns1 dx mA) (hw : Within mA nl) (hz : nl.length ≤ 1000)
    (hn : s.heap.Ns L m) (hm : m "self" = some (.ref x)) (hy : m y = some v) (hf : findIn K (.ref C) f = some none) (hk : scope.kind = .function) (hl : scope.names.lookup ("self" : Str) = some .local) (hl2 : scope.names.lookup y = some .local) (hd : (y == ("__debug__" : Str)) = false)
    (hsw : swapsWith (.Name y q3) (some (.Attribute (.Name "self" q1) f q2)) q4.line (envX name scope L a cdv cl) = pure false)
    (hq : ∀ h' tk, (∀ b o, b ≠ dx → s.heap.get? b = some o → h'.get? b = some o) → h'.Ns1 dx (fun z => if z = f then some v else mA z) → wpAny (model prog w) A (execs rest (envX name scope L a cdv cl)) Q E { s with heap := h', toks := tk }) :
    wpAny (model prog w) A (execs (.Assign [.Attribute (.Name "self" q1) f q2] (.Name y q3) q4 :: rest) (envX name scope L a cdv cl)) Q E s := by
  obtain ⟨cd, hcd, hmro, hdic⟩ := Fx.vE
  obtain ⟨oD, _, _, hoD, _, _⟩ := hA.count hw
  refine wpAny_execs_cons (plainObj_wpAny_Assign_Attribute ?_ hsw)
  refine name_l (v := v) hn hy ?_ hk hl2 hd
  refine name_l (v := .ref x) hn hm ?_ hk hl (by decide +kernel)
  refine set_plain X (ox := { cls := .ref C, dict := some dx, data := .fields #[.ref t0, .none, .none, .none, .bool false, .none] }) (od := some oD) ⟨hx, rfl, rfl, hoD⟩ Fx.sa ?_
  exact PySem.OEX.osa_old X hx hA hw hz hcd hmro hdic hf (fun h₃ tk₃ k₃ hn₃ => hq h₃ tk₃ k₃ hn₃)

end
/-- what is looked at in the text of such an __init__ -/
structure TxtI (st : Stmt) (ps : List Str) : Prop where
  kS : (L2.defScope st).kind = .function
  co : (L2.defScope st).isCoroutine = false
  gn : (L2.defScope st).isGenerator = false
  nc : ((L2.defScope st).names.all fun z => match z.2 with | .cell => false | _ => true) = true
  ls : (L2.defScope st).names.lookup ("self" : Str) = some .local
  lc : (L2.defScope st).names.lookup ("__class__" : Str) = some .free
  lu : (L2.defScope st).names.lookup ("super" : Str) = some .globalImplicit
  hd : ∃ ar, ((L2.defArgs st).posonlyargs ++ (L2.defArgs st).args).head? = some ar ∧ ar.arg = "self"
  ia : ∀ (qual : Str) (L a c : Addr) (cd : Value), interactive (ksEnv qual (L2.defScope st) L a cd c) = false
  bind : ∀ (nm qual : Str) (kV doc pm : Value) (an : Option Addr) (cdv ct : Value) (cc : Addr) (us : List Value), us.length = ps.length + 1 →
    bindArgs (ksFn nm qual (L2.defArgs st) (L2.defBody st) (L2.defScope st) .none kV doc pm an cdv ct cc) ⟨us, []⟩ = pure (((("self" : Str) :: ps)).zip us)
structure Txt1 (st : Stmt) (y f : Str) : Prop where
  i : TxtI st [y]
  body : ∃ (tx : Str) (j : Nat) (pt p0 p1 p2 p3 p4 q1 q2 q3 q4 : Pos), L2.defBody st = [.Expr (.Call (.Attribute (.Call (.Name "super" p0) [] [] p1) "__init__" p2) [.Constant (.str tx) j pt] [] p3) p4, .Assign [.Attribute (.Name "self" q1) f q2] (.Name y q3) q4] ∧ ∀ (qual : Str) (L a c : Addr) (cd : Value), ∃ pl : Sem Bool, eval (.Call (.Attribute (.Call (.Name "super" p0) [] [] p1) "__init__" p2) [.Constant (.str tx) j pt] [] p3) (ksEnv qual (L2.defScope st) L a cd c) = (do
      let ov ← attributeBase (.Call (.Name "super" p0) [] [] p1) "__init__" (ksEnv qual (L2.defScope st) L a cd c) (eval (.Call (.Name "super" p0) [] [] p1) (ksEnv qual (L2.defScope st) L a cd c))
      standAt p2.atName
      let (f, first) ← holding [ov] (getMethod ov "__init__" pl)
      callWith p3 f first (backTo p3 (starEach [.Constant (.str tx) j pt] (ksEnv qual (L2.defScope st) L a cd c))) [])
  ly : (L2.defScope st).names.lookup y = some .local
  ne : (y == ("self" : Str)) = false ∧ (("self" : Str) == y) = false ∧ (y == ("__debug__" : Str)) = false
structure Txt2 (st : Stmt) (y f y2 f2 : Str) : Prop where
  i : TxtI st [y, y2]
  body : ∃ (tx : Str) (j : Nat) (pt p0 p1 p2 p3 p4 q1 q2 q3 q4 u1 u2 u3 u4 z1 z2 : Pos), L2.defBody st = [.Expr (.Call (.Attribute (.Call (.Name "super" p0) [] [] p1) "__init__" p2) [.BinOp (.Constant (.str tx) j pt) .Add (.Name y z1) z2] [] p3) p4, .Assign [.Attribute (.Name "self" q1) f q2] (.Name y q3) q4,
    .Assign [.Attribute (.Name "self" u1) f2 u2] (.Name y2 u3) u4] ∧ tx.length ≤ 1000 ∧ ∀ (qual : Str) (L a c : Addr) (cd : Value), ∃ pl : Sem Bool, eval (.Call (.Attribute (.Call (.Name "super" p0) [] [] p1) "__init__" p2) [.BinOp (.Constant (.str tx) j pt) .Add (.Name y z1) z2] [] p3) (ksEnv qual (L2.defScope st) L a cd c) = (do
      let ov ← attributeBase (.Call (.Name "super" p0) [] [] p1) "__init__" (ksEnv qual (L2.defScope st) L a cd c) (eval (.Call (.Name "super" p0) [] [] p1) (ksEnv qual (L2.defScope st) L a cd c))
      standAt p2.atName
      let (f, first) ← holding [ov] (getMethod ov "__init__" pl)
      callWith p3 f first (backTo p3 (starEach [.BinOp (.Constant (.str tx) j pt) .Add (.Name y z1) z2] (ksEnv qual (L2.defScope st) L a cd c))) [])
  ly : (L2.defScope st).names.lookup y = some .local
  ly2 : (L2.defScope st).names.lookup y2 = some .local
  ne : (y == ("self" : Str)) = false ∧ (("self" : Str) == y) = false ∧ (y == ("__debug__" : Str)) = false ∧ (y2 == ("self" : Str)) = false ∧ (("self" : Str) == y2) = false ∧ (y2 == ("__debug__" : Str)) = false ∧ (y == y2) = false ∧ (f == f2) = false
section
variable {prog : Program} {w : World} {A : Around} {R : Result → Shared → Prop} {s : Shared} {K : Frag} {C fI cda cc x t0 : Addr} {nm qual : Str} {st : Stmt} {y f y2 f2 : Str} {v v2 : Value}
theorem in_but {h h' : Heap} (X : K.In h) (hn : K.lookup x = none) (k : ∀ b o, b ≠ x → h.get? b = some o → h'.get? b = some o) : K.In h' := fun a o e =>
  k a o (fun z => by rw [z, hn] at e; cases e) (X a o e)
theorem ns_but {h h' : Heap} {L : Addr} {m : Str → Option Value} (n : h.Ns L m) (hL : L ≠ x) (k : ∀ b o, b ≠ x → h.get? b = some o → h'.get? b = some o) : h'.Ns L m := by
  obtain ⟨o, es, ep, ho, r⟩ := n
  exact ⟨o, es, ep, k L o hL ho, r⟩
/-- the call up to the body -/
theorem ini_call {ps : List Str} {vs : List Value} (T : ExT K prog C fI nm qual st cda cc) (S : TxtI st ps) (hl : vs.length = ps.length) (hlo : ∀ p ∈ ps, (L2.defScope st).names.lookup p = some .local) (X : K.In s.heap) (hlim : s.heap.NoLimit) (hroom : A.depth < recursionLimit)
    (h : ∀ h₀, h₀.Ns s.heap.objs.size (fun z => (((("self" : Str) :: ps)).zip (.ref x :: vs)).reverse.lookup z) → Kp s.heap h₀ → ∀ b tk,
      PySem.wpAt (model prog w) (A.deeper (ksEnv qual (L2.defScope st) s.heap.objs.size fI (.ref cda) cc)) (.func b (ksEnv qual (L2.defScope st) s.heap.objs.size fI (.ref cda) cc)) (execs (L2.defBody st) (ksEnv qual (L2.defScope st) s.heap.objs.size fI (.ref cda) cc))
      (fun f s' => R (.ok (.ret (match f with | .ret v => v | _ => .none))) s')
      (fun e s' => wpAny (model prog w) (A.deeper (ksEnv qual (L2.defScope st) s.heap.objs.size fI (.ref cda) cc)) (leaving (ksEnv qual (L2.defScope st) s.heap.objs.size fI (.ref cda) cc) e) (fun _ s'' => R (.error e) s'') (fun e' s'' => R (.error e') s'') s')
      { s with heap := h₀, toks := tk }) :
    codeAny (model prog w) A (.call (.ref fI) ⟨.ref x :: vs, []⟩) R s := by
  obtain ⟨oc, od, osl, kV, doc, pm, an, ct, lf⟩ := T.fn
  refine ks_codeAny_call_defAt (fd := ksFn nm qual (L2.defArgs st) (L2.defBody st) (L2.defScope st) .none kV doc pm an (.ref cda) ct cc) (body := L2.defBody st) (binds := ((("self" : Str) :: ps)).zip (.ref x :: vs)) hroom (X _ _ lf) rfl hlim (codeRec_of X T.cd) rfl
    (BindsTo.of_eq (S.bind _ _ _ _ _ _ _ _ _ _ (by rw [List.length_cons, hl]))) ?_ ?_ (fun h₀ hns hk => h h₀ hns hk _ _) S.co S.gn S.kS
  · intro z hz e
    have q := List.all_eq_true.mp S.nc z hz
    rw [e] at q
    cases q
  · intro z hz
    have e := List.of_mem_zip (show (z.1, z.2) ∈ _ from hz)
    rcases List.mem_cons.mp e.1 with e | e
    · rw [e]; exact S.ls
    · exact hlo _ e
theorem ini1 (Fx : ExF K C fI) (T : ExT K prog C fI nm qual st cda cc) (S : Txt1 st y f) (hf : findIn K (.ref C) f = some none) (X : K.In s.heap) (hlim : s.heap.NoLimit) (G : Glb s.heap) (hx : s.heap.get? x = some (excO C t0)) (hnx : K.lookup x = none) (hroom : A.depth < recursionLimit)
    (hq : ∀ h' tk dx, IniEnd s.heap h' x C dx (fun z => if z = f then some v else none) → R (.ok (.ret .none)) { s with heap := h', toks := tk }) :
    codeAny (model prog w) A (.call (.ref fI) ⟨[.ref x, v], []⟩) R s := by
  obtain ⟨tx, j, pt, p0, p1, p2, p3, p4, q1, q2, q3, q4, eb, hmc⟩ := S.body
  obtain ⟨n1, n2, n3⟩ := S.ne
  obtain ⟨ar, har, earn⟩ := S.i.hd
  have Lx : s.heap.objs.size ≠ x := Nat.ne_of_gt (Heap.lt_size hx)
  refine ini_call T S.i rfl (fun p hp => ?_) X hlim hroom (fun h₀ hns hk b tk => ?_)
  · rw [List.mem_singleton.mp hp]; exact S.ly
  have m1 : ((((("self" : Str) :: [y])).zip (.ref x :: [v])).reverse).lookup ("self" : Str) = some (Value.ref x) := by
    show List.lookup ("self" : Str) [(y, v), ("self", Value.ref x)] = _
    simp [List.lookup, n2]
  have m2 : ((((("self" : Str) :: [y])).zip (Value.ref x :: [v])).reverse).lookup y = some v := by
    show List.lookup y [(y, v), ("self", Value.ref x)] = _
    simp [List.lookup]
  rw [eb]
  refine ks_wpAt_execs_cons (sup_stmt (L := s.heap.objs.size) Fx T (X.keeps hk) (G.kp hk) (hk _ _ hx) hns (by rw [earn]; exact m1) har (by rw [earn]; exact S.i.ls) S.i.lu S.i.lc S.i.kS (fun s1 _ Q' q' => Constant_str (q' _ _)) rfl (hmc _ _ _ _ _) (S.i.ia _ _ _ _ _) rfl (fun h1 tk1 t1 k1 e1 => ?_))
  have kk : ∀ b o, b ≠ x → s.heap.get? b = some o → h1.get? b = some o := fun b o hb e => k1 b o hb (hk b o e)
  refine wpAt_of_wpAny (asg_new (s := { s with heap := h1, toks := tk1 }) Fx (in_but X hnx kk) e1 (ns_but hns Lx k1) m1 m2 hf S.i.kS S.i.ls S.ly n3 Lx rfl (fun h2 tk2 dx k2 db dn e2 ns2 => ?_))
  exact wpAny_execs_nil (hq h2 tk2 dx ⟨fun b o hb e => k2 b o hb (kk b o hb e), ⟨t1, e2⟩, Nat.le_trans (by
    obtain ⟨o, es, ep, ho, _⟩ := ns_but hns Lx k1
    exact Nat.le_of_lt (Heap.lt_size ho)) db, dn, ns2⟩)
theorem ini2 {z : Str} {tz : Tok} (Fx : ExF K C fI) (T : ExT K prog C fI nm qual st cda cc) (S : Txt2 st y f y2 f2) (hf : findIn K (.ref C) f = some none) (hf2 : findIn K (.ref C) f2 = some none) (X : K.In s.heap) (hlim : s.heap.NoLimit) (G : Glb s.heap) (hx : s.heap.get? x = some (excO C t0)) (hnx : K.lookup x = none) (hroom : A.depth < recursionLimit) (hz : z.length ≤ 1000)
    (hq : ∀ h' tk dx, IniEnd s.heap h' x C dx (fun q => if q = f2 then some v2 else if q = f then some (.str z tz) else none) → R (.ok (.ret .none)) { s with heap := h', toks := tk }) :
    codeAny (model prog w) A (.call (.ref fI) ⟨[.ref x, .str z tz, v2], []⟩) R s := by
  obtain ⟨tx, j, pt, p0, p1, p2, p3, p4, q1, q2, q3, q4, u1, u2, u3, u4, z1, z2, eb, htx, hmc⟩ := S.body
  obtain ⟨n1, n2, n3, n4, n5, n6, n7, n8⟩ := S.ne
  obtain ⟨ar, har, earn⟩ := S.i.hd
  have Lx : s.heap.objs.size ≠ x := Nat.ne_of_gt (Heap.lt_size hx)
  refine ini_call T S.i rfl (fun p hp => ?_) X hlim hroom (fun h₀ hns hk b tk => ?_)
  · rcases List.mem_cons.mp hp with e | hp
    · rw [e]; exact S.ly
    · rw [List.mem_singleton.mp hp]; exact S.ly2
  have m1 : ((((("self" : Str) :: [y, y2])).zip (.ref x :: [.str z tz, v2])).reverse).lookup ("self" : Str) = some (Value.ref x) := by
    show List.lookup ("self" : Str) [(y2, v2), (y, .str z tz), ("self", Value.ref x)] = _
    simp [List.lookup, n2, n5]
  have m2 : ((((("self" : Str) :: [y, y2])).zip (Value.ref x :: [.str z tz, v2])).reverse).lookup y = some (.str z tz) := by
    show List.lookup y [(y2, v2), (y, .str z tz), ("self", Value.ref x)] = _
    simp [List.lookup, n7]
  have m3 : ((((("self" : Str) :: [y, y2])).zip (Value.ref x :: [.str z tz, v2])).reverse).lookup y2 = some v2 := by
    show List.lookup y2 [(y2, v2), (y, .str z tz), ("self", Value.ref x)] = _
    simp [List.lookup]
  rw [eb]
  refine ks_wpAt_execs_cons (sup_stmt (L := s.heap.objs.size) Fx T (X.keeps hk) (G.kp hk) (hk _ _ hx) hns (by rw [earn]; exact m1) har (by rw [earn]; exact S.i.ls) S.i.lu S.i.lc S.i.kS (fun s1 kp1 Q' q' => ?_) rfl (hmc _ _ _ _ _) (S.i.ia _ _ _ _ _) rfl (fun h1 tk1 t1 k1 e1 => ?_))
  · refine wpAny_BinOp (Constant_str (name_l (v := .str z tz) (hns.keeps kp1) m2 ?_ S.i.kS S.ly n3))
    exact PyProof.Rows.add_str (fun t' tk => q' _ _) (by rw [sizeLine_eq]; omega)
  have kk : ∀ b o, b ≠ x → s.heap.get? b = some o → h1.get? b = some o := fun b o hb e => k1 b o hb (hk b o e)
  have n1' := ns_but hns Lx k1
  refine wpAt_of_wpAny (asg_new (s := { s with heap := h1, toks := tk1 }) Fx (in_but X hnx kk) e1 n1' m1 m2 hf S.i.kS S.i.ls S.ly n3 Lx rfl (fun h2 tk2 dx k2 db dn e2 ns2 => ?_))
  have kk2 : ∀ b o, b ≠ x → s.heap.get? b = some o → h2.get? b = some o := fun b o hb e => k2 b o hb (kk b o hb e)
  have Ldx : s.heap.objs.size ≠ dx := by
    obtain ⟨o, es, ep, ho, _⟩ := n1'
    exact Nat.ne_of_lt (Nat.lt_of_lt_of_le (Heap.lt_size ho) db)
  refine asg_old (s := { s with heap := h2, toks := tk2 }) (nl := [f]) Fx (in_but X hnx kk2) e2 ns2 ?_ (by show 1 ≤ 1000; decide) (ns_but n1' Lx k2) m1 m3 hf2 S.i.kS S.i.ls S.ly2 n6 rfl (fun h3 tk3 k3 ns3 => ?_)
  · intro q hq'
    by_cases e : q = f
    · rw [e]; exact List.mem_singleton.mpr rfl
    · exact absurd (if_neg e) hq'
  refine wpAny_execs_nil (hq h3 tk3 dx ⟨fun b o hb e => k3 b o (fun q => ?_) (kk2 b o hb e), ⟨t1, k3 _ _ (fun q => dn q.symm) e2⟩, Nat.le_trans (by
    obtain ⟨o, es, ep, ho, _⟩ := n1'
    exact Nat.le_of_lt (Heap.lt_size ho)) db, dn, ns3⟩)
  have := Heap.lt_size e
  rw [q] at this
  obtain ⟨o, es, ep, ho, _⟩ := n1'
  have h4 := Heap.lt_size ho
  exact absurd (Nat.lt_of_lt_of_le (Nat.lt_trans this h4) db) (Nat.lt_irrefl _)
end
end BwM
namespace BwM
open PySem PySem.W PySem.Calls PyProof.Rows PySem.HandSPX
/-- a made exception: at e, its dict at d tells mA -/
structure ExMade (h h' : Heap) (e C d : Addr) (mA : Str → Option Value) : Prop where
  keep : ∀ b o, h.get? b = some o → h'.get? b = some o
  new : h.objs.size ≤ e
  obj : ∃ oe vs, h'.get? e = some oe ∧ oe.cls = .ref C ∧ oe.dict = some d ∧ oe.data = .fields vs ∧ vs[1]? = some .none
  dbig : h.objs.size ≤ d
  dne : d ≠ e
  ns : h'.Ns1 d mA
section
variable {prog : Program} {w : World} {A : Around} {R : Result → Shared → Prop} {s : Shared} {K : Frag} {C fI : Addr}
theorem ex_made {vs : List Value} {mA : Str → Option Value} (Fx : ExF K C fI) (X : K.In s.heap) (hlim : s.heap.NoLimit) (G : Glb s.heap) (hl : vs.length ≤ sizeLine) (hroom : A.depth + 1 < recursionLimit)
    (hI : ∀ (A' : Around) (R' : Result → Shared → Prop) (s' : Shared) (x t0 : Addr), A'.depth < recursionLimit → K.In s'.heap → s'.heap.NoLimit → Glb s'.heap → s'.heap.get? x = some (excO C t0) → K.lookup x = none →
      (∀ h' tk dx, IniEnd s'.heap h' x C dx mA → R' (.ok (.ret .none)) { s' with heap := h', toks := tk }) → codeAny (model prog w) A' (.call (.ref fI) ⟨.ref x :: vs, []⟩) R' s')
    (hq : ∀ h' tk e d, ExMade s.heap h' e C d mA → R (.ok (.ret (.ref e))) { s with heap := h', toks := tk }) :
    codeAny (model prog w) A (.call (.ref C) ⟨vs, []⟩) R s := by
  obtain ⟨nm', N', qn, bs, bm, hdct, sn, sub, ab, col, dd, c0, c1, c2, c3, c5, hC, hT⟩ := excInit_of X Fx.q
  obtain ⟨hp, g, dr, tk, os⟩ := s
  have k : ∀ b o, hp.get? b = some o → ((hp.push (kdv_tup vs)).push (excO C hp.objs.size)).get? b = some o := fun b o e => Heap.get?_push_of_some _ (Heap.get?_push_of_some _ e)
  have hget : ((hp.push (kdv_tup vs)).push (excO C hp.objs.size)).get? (hp.objs.size + 1) = some (excO C hp.objs.size) := by heap_get
  have hnx : K.lookup (hp.objs.size + 1) = none := by
    cases e : K.lookup (hp.objs.size + 1) with
    | none => rfl
    | some o => exact absurd (Nat.lt_of_succ_lt (Heap.lt_size (show hp.get? (hp.objs.size + 1) = some o from X _ _ e))) (Nat.lt_irrefl _)
  refine call_own F.excBase_ValueError hT hC (looks_findIn X Fx.iC) (fun self => bind_fn X self Fx.tI) hl ?_
  refine hI _ _ ⟨(hp.push (kdv_tup vs)).push (excO C hp.objs.size), g, dr, tk, os⟩ (hp.objs.size + 1) hp.objs.size ?_ (X.keeps k) (hlim.keeps k) (G.kp k) hget hnx ?_
  · show A.depth + 1 < recursionLimit
    exact hroom
  · intro h' tk' dx I
    have old : ∀ b o, hp.get? b = some o → h'.get? b = some o := fun b o e => I.keep b o (Nat.ne_of_lt (Nat.lt_succ_of_lt (Heap.lt_size e))) (k b o e)
    obtain ⟨t1, ht1⟩ := I.obj
    have db := I.dbig
    have z : hp.objs.size + 1 + 1 ≤ dx := by
      rw [Heap.size_push, Heap.size_push] at db
      exact db
    exact ⟨rfl, hq h' tk' (hp.objs.size + 1) dx ⟨old, Nat.le_succ _, ⟨_, _, ht1, rfl, rfl, rfl, rfl⟩, Nat.le_trans (Nat.le_trans (Nat.le_succ _) (Nat.le_succ _)) z, I.dne, I.ns⟩⟩
end
end BwM
namespace Bw
open PySem PySem.Spec PyProof.Rows L2
section
variable {X : Cx} {P : Program} {w : World} {K : PySem.W.Frag} {mg : Str → Option Value} {C fI : Addr}
/-- the error's own dict: what its class tells of the arguments vs -/
structure ExK (P : Program) (w : World) (K : PySem.W.Frag) (mg : Str → Option Value) (C fI : Addr) (nm : Str) (ok : List V → Prop) (fs : List V → List (Str × V)) : Prop where
  ex : BwM.ExF K C fI
  sup : mg "super" = none
  exC : PySem.W.subIn K (.ref C) (.type "BaseException") = some true
  tyC : PySem.W.typeIn K (.ref C) = some (.type "type")
  kC : PySem.W.keepIn K (.ref C) = true
  gC : mg nm = some (.ref C)
  len : ∀ vs, ok vs → vs.length ≤ 1000
  run : ∀ (vs : List V) (us : List Value), ok vs → Vals vs us → ∃ mA : Str → Option Value, (∀ f, RelO ((fs vs).lookup f) (mA f)) ∧
    ∀ (A' : Around) (R' : Result → Shared → Prop) (s' : Shared) (x t0 : Addr), A'.depth < recursionLimit → K.In s'.heap → s'.heap.NoLimit → BwM.Glb s'.heap → s'.heap.get? x = some (PySem.HandSPX.excO C t0) → K.lookup x = none →
      (∀ h' tk dx, BwM.IniEnd s'.heap h' x C dx mA → R' (.ok (.ret .none)) { s' with heap := h', toks := tk }) → codeAny (model P w) A' (.call (.ref fI) ⟨.ref x :: us, []⟩) R' s'
theorem inv_glb {pins : List (Addr × Obj)} {σ : L2.St} {H : Hp} {s : Shared} (I : Inv X pins σ H s) (h : X.mg "super" = none) : BwM.Glb s.heap := by
  obtain ⟨mb, b1, b2⟩ := I.ok.mod.blt
  exact ⟨⟨X.mg, I.ok.mod.glob.keeps I.bk, h⟩, mb, b1.keeps I.bk, (b2 _ (by decide +kernel)).trans (by decide +kernel)⟩
/-- C(e, ..), to be raised -/
def tMkE (C : Addr) (ok : List V → Prop) (fs : List V → List (Str × V)) (ta : TA) : L2.St → Hp → XK → Prop := fun σ H Q => ta σ H fun vs H1 => ok vs ∧ ∀ d, H1 d = none → Q (.ref C) (some d) (upd H1 d (.xd (fs vs)))
theorem pmk_e {nm : Str} {ok : List V → Prop} {fs : List V → List (Str × V)} {a : Expr} {as : List Expr} {ta : TA} {p pos : Pos} {k : Nat} (T : ExK X.prog X.w X.K X.mg C fI nm ok fs) (hr : Room k X.A) (hk1 : 1 ≤ k) (ha : PA X (a :: as) ta) (hg : Gl X nm) (hdb : (nm == ("__debug__" : Str)) = false := by decide)
    (he : starEach (a :: as) X.env = (false, eval a X.env) :: starEach as X.env := by rfl) (hpl : (backTo pos (starEach as X.env)).any (·.1) = false := by rfl) :
    PMk X (.Call (.Name nm p) (a :: as) [] pos) (tMkE C ok fs ta) := by
  intro pins s σ H Q I h
  refine wpAny_Call_Name_kw (ld_glob I hg T.gC ?_ hdb)
  refine PySem.W.callWith_K (h₀ := X.base) I.ok.mod.kin T.kC (thn (ha.run pos pins s σ H _ I h) fun us s1 hh => ?_) he hpl
  obtain ⟨vs, H1, I1, r1, hok, q1⟩ := hh
  refine ⟨I1.kIn, ?_⟩
  show wpAny _ _ (call (.ref C) us) _ _ _
  obtain ⟨mA, rel, run⟩ := T.run vs us hok r1
  have hlim := I1.nolimit
  have hglb := inv_glb I1 T.sup
  have hul : us.length ≤ sizeLine := by
    rw [← r1.length]
    exact Nat.le_trans (T.len vs hok) (by decide)
  obtain ⟨hp, g, dr, tk, os⟩ := s1
  refine wpAny_call (BwM.ex_made T.ex I1.kIn hlim hglb hul (by have := hr.dp; omega) run fun h' tk' e d M => ?_)
  show MkP X pins σ Q (.ref e) ⟨h', g, dr, tk', os⟩
  obtain ⟨oe, fv, hoe, hc, hd, hdat, h1⟩ := M.obj
  have hns := M.ns
  obtain ⟨G', g1, g2⟩ := restrict h' fun b => decide (b ≠ e)
  have gk : ∀ b, b ≠ e → G'.get? b = h'.get? b := fun b hb => g1 b (decide_eq_true hb)
  have ge : G'.get? e = none := g2 e (by simp)
  have old : ∀ b o, hp.get? b = some o → G'.get? b = some o := fun b o q => (gk b (Nat.ne_of_lt (Nat.lt_of_lt_of_le (Heap.lt_size q) M.new))).trans (M.keep b o q)
  have ob : ObjOk X.prog X.w (upd H1 d (.xd (fs vs))) G' d (.xd (fs vs)) := ⟨mA, hns.at (fun o q => (gk d M.dne).trans q), rel⟩
  have J : Inv X pins σ (upd H1 d (.xd (fs vs))) ⟨G', g, dr, tk', os⟩ := I1.laid (t' := tk') old M.dbig ob
  refine ⟨e, oe, fv, ⟨G', g, dr, tk', os⟩, _, .ref C, some d, rfl, J, fun b o q => ?_, ge, hoe, ⟨hc, hd⟩, hdat, h1, ?_, rfl, I1.bare, raises_own T.exC T.tyC, q1 d (I1.hok.fresh M.dbig)⟩
  · by_cases hb : b = e
    · have q' : G'.get? b = some o := q
      rw [hb, ge] at q'
      cases q'
    · exact (gk b hb).symm.trans q
  · rw [upd_ne (Ne.symm M.dne)]
    exact I1.hok.fresh M.new
def ok1 (vs : List V) : Prop := ∃ v, vs = [v]
def fs1 (f : Str) (vs : List V) : List (Str × V) := vs.map fun v => (f, v)
def ok2 (vs : List V) : Prop := ∃ (z : Str) (v : V), vs = [.str z, v] ∧ z.length ≤ 1000
def fs2 (f f2 : Str) (vs : List V) : List (Str × V) := match vs with
  | [v, u] => [(f2, u), (f, v)]
  | _ => []
theorem run1 {nm qual : Str} {st : Stmt} {cda cc : Addr} {y f : Str} (Fx : BwM.ExF K C fI) (T : BwM.ExT K P C fI nm qual st cda cc) (S : BwM.Txt1 st y f) (hf : PySem.W.findIn K (.ref C) f = some none) (vs : List V) (us : List Value) (ok : ok1 vs) (r : Vals vs us) :
    ∃ mA : Str → Option Value, (∀ g, RelO ((fs1 f vs).lookup g) (mA g)) ∧
    ∀ (A' : Around) (R' : Result → Shared → Prop) (s' : Shared) (x t0 : Addr), A'.depth < recursionLimit → K.In s'.heap → s'.heap.NoLimit → BwM.Glb s'.heap → s'.heap.get? x = some (PySem.HandSPX.excO C t0) → K.lookup x = none →
      (∀ h' tk dx, BwM.IniEnd s'.heap h' x C dx mA → R' (.ok (.ret .none)) { s' with heap := h', toks := tk }) → codeAny (model P w) A' (.call (.ref fI) ⟨.ref x :: us, []⟩) R' s' := by
  obtain ⟨v, rfl⟩ := ok
  obtain ⟨u, rfl, ru⟩ := vals1 r
  refine ⟨fun z => if z = f then some u else none, fun g => ?_, fun A' R' s' x t0 h1 h2 h3 h4 h5 h6 h7 => BwM.ini1 Fx T S hf h2 h3 h4 h5 h6 h1 h7⟩
  exact relO_put (fs := []) (mA := fun _ => none) ru (fun _ => True.intro) g
theorem run2 {nm qual : Str} {st : Stmt} {cda cc : Addr} {y f y2 f2 : Str} (Fx : BwM.ExF K C fI) (T : BwM.ExT K P C fI nm qual st cda cc) (S : BwM.Txt2 st y f y2 f2) (hf : PySem.W.findIn K (.ref C) f = some none) (hf2 : PySem.W.findIn K (.ref C) f2 = some none) (vs : List V) (us : List Value) (ok : ok2 vs) (r : Vals vs us) :
    ∃ mA : Str → Option Value, (∀ g, RelO ((fs2 f f2 vs).lookup g) (mA g)) ∧
    ∀ (A' : Around) (R' : Result → Shared → Prop) (s' : Shared) (x t0 : Addr), A'.depth < recursionLimit → K.In s'.heap → s'.heap.NoLimit → BwM.Glb s'.heap → s'.heap.get? x = some (PySem.HandSPX.excO C t0) → K.lookup x = none →
      (∀ h' tk dx, BwM.IniEnd s'.heap h' x C dx mA → R' (.ok (.ret .none)) { s' with heap := h', toks := tk }) → codeAny (model P w) A' (.call (.ref fI) ⟨.ref x :: us, []⟩) R' s' := by
  obtain ⟨z, v, rfl, hz⟩ := ok
  obtain ⟨u, u', rfl, ru, ru'⟩ := vals2 r
  obtain ⟨tz, rfl⟩ := (show ∃ t, u = Value.str z t from ru)
  refine ⟨fun q => if q = f2 then some u' else if q = f then some (.str z tz) else none, fun g => ?_, fun A' R' s' x t0 h1 h2 h3 h4 h5 h6 h7 => BwM.ini2 Fx T S hf hf2 h2 h3 h4 h5 h6 h1 hz h7⟩
  exact relO_put ru' (fun g => relO_put (fs := []) (mA := fun _ => none) ru (fun _ => True.intro) g) g
end
end Bw

namespace Bw
open PySem PySem.Spec PyProof.Rows L2
/-! ### try with clauses, with and without a name -/
abbrev Suite := Addr → Value → Option Addr → TS
def Ends.clr (D : Ends) (i : Nat) : Ends := { nx := fun σ H => D.nx (σ.set i none) H, rt := D.rt, bk := fun σ H => D.bk (σ.set i none) H, ct := fun σ H => D.ct (σ.set i none) H }
def suiteAt (o : Option Nat) (ts : Suite) (cls : Value) (d : Option Addr) (D : Ends) (σ : L2.St) (H : Hp) (a : Addr) : Prop :=
  match o with
  | none => ts a cls d D σ H
  | some i => ts a cls d (Ends.clr D i) (σ.set i (some (.ref a))) H
def wH (K : PySem.W.Frag) (Wout : WX) (D : Ends) : List (Value × Option Nat × Suite) → WX
  | [] => Wout
  | (c, o, ts) :: r => fun cls d σ H => ∃ b, PySem.W.exmOne K cls c = some b ∧ (b = true → ∀ a, H a = none → suiteAt o ts cls d D σ H a) ∧ (b = false → wH K Wout D r cls d σ H)
/-- a clause's name, if it has one -/
def clauseAt (X : Cx) (o : Option Nat) (n : Option Str) : Prop :=
  match o, n with
  | none, none => True
  | some i, some n => X.N[i]? = some n ∧ X.env.kindOf n = some .local
  | _, _ => False
inductive HsOk (X : Cx) : List ExceptHandler → List (Value × Option Nat × Suite) → Prop
  | nil : HsOk X [] []
  | cons {x : Str} {n : Option Str} {c : Value} {o : Option Nat} {ts : Suite} {b₀ : Stmt} {suite : List Stmt} {np pos' : Pos} {hds : List ExceptHandler} {l : List (Value × Option Nat × Suite)} (hc : Names X x c) (hn : clauseAt X o n)
      (hsu : ∀ (a : Addr) (oe : Obj) (cls : Value) (d : Option Addr) (pn : List (Addr × Obj)), Zc cls d oe → (∃ vs, oe.data = .fields vs) → PSs (X.suite a ((a, oe) :: pn)) (b₀ :: suite) (ts a cls d)) (r : HsOk X hds l) :
      HsOk X (.ExceptHandler (some (.Name x np)) n (b₀ :: suite) pos' :: hds) ((c, o, ts) :: l)
section
variable {X : Cx} {body : List Stmt} {h₀ : ExceptHandler} {hds : List ExceptHandler} {l : List (Value × Option Nat × Suite)} {pos : Pos} {tb : WX → TS} {Wout : WX}
/-- what is known of an exception that was caught and lies still -/
structure Caught (X : Cx) (pins : List (Addr × Obj)) (σ : L2.St) (H : Hp) (a : Addr) (B : Heap) (sI s' : Shared) (cls : Value) (d : Option Addr) (h3 : Heap) : Prop where
  I : Inv X pins σ H sI
  nb : ∀ b o, sI.heap.get? b = some o → b ∉ frs X.stack → B.get? b = some o
  up : sI.heap.UpToSlots h3
  fl : HandSPX.FlyingZ B (X.env :: X.outer) a (Zc cls d) h3
  na : H a = none
  os : s'.os = sI.os
  ag : AllBare s'.gens
theorem Caught.notFr {pins : List (Addr × Obj)} {σ : L2.St} {H : Hp} {a : Addr} {B : Heap} {sI s' : Shared} {cls : Value} {d : Option Addr} {h3 : Heap} (c : Caught X pins σ H a B sI s' cls d h3) (hf : X.env.frame = some X.env.locals) : a ≠ X.env.locals ∧ a ∉ X.fs := by
  obtain ⟨oe3, vs3, he3, _, hd3⟩ := c.fl.there
  have nfr : a ∉ frs (X.env :: X.outer) := fun hm => by
    obtain ⟨_, o', e', hnf⟩ := c.fl.2.2.1.mem hm
    rw [he3] at e'
    cases e'
    exact hnf _ hd3
  refine ⟨fun z => nfr (List.mem_filterMap.mpr ⟨X.env, List.mem_cons_self, by rw [hf, z]⟩), fun hm => ?_⟩
  obtain ⟨e, he, q⟩ := List.mem_filterMap.mp hm
  exact nfr (List.mem_filterMap.mpr ⟨e, List.mem_cons_of_mem _ he, q⟩)
theorem handle_all (hs : X.stack = X.env :: X.outer) (hf : X.env.frame = some X.env.locals) (hN : X.N.Nodup) (tk : Takes X Wout) {pins : List (Addr × Obj)} {σ : L2.St} {H : Hp} {a : Addr} {B : Heap} {sI s' : Shared} {cls : Value} {d : Option Addr} {h3 : Heap} {D : Ends}
    (c : Caught X pins σ H a B sI s' cls d h3) (hk : HsOk X hds l) : wH X.K Wout D l cls d σ H → wpAny (model X.prog X.w) X.A (handleBy (.ref a) X.env hds) (SP X pins D) X.xe { s' with heap := h3 } := by
  have ok := c.I.ok
  have J3 : Inv X pins σ H { s' with heap := h3 } := c.I.landed c.nb c.fl.1 c.up c.os c.ag
  obtain ⟨oe3, vs3, he3, hz3, hd3⟩ := c.fl.there
  obtain ⟨nL, nF⟩ := c.notFr hf
  have S3 := J3.suite he3 hd3 c.na nL nF
  induction hk with
  | nil =>
    intro w
    refine wpAny_handleBy_nil ?_
    obtain ⟨k1, k2, k3, oe, vs, T, oT, ts', he, hz, hd, h1, hr⟩ := id c.fl
    unfold PySem.passOn
    refine wpAny_bind (wpAny_field he hd h1 ?_)
    rw [if_neg (show ¬ ((Value.ref T == Value.none) = true) from by simp)]
    have fin : wpAny (model X.prog X.w) X.A (setFlight (.ref a) X.env.frame) (fun _ s4 => wpAny (model X.prog X.w) X.A (throw (.ref a) : Sem Flow) (SP X pins D) X.xe s4) X.xe { s' with heap := h3 } := by
      rw [hf]
      refine HandSPX.setFlight_upZ c.fl fun h4 hh4 up4 => wpAny_throw (tk _ _ ?_)
      exact ⟨a, B, sI, pins, σ, H, cls, d, rfl, c.I, c.nb, c.up.trans up4, .inr (.inr (by rw [hs]; exact hh4)), c.na, c.os, c.ag, w⟩
    first
      | exact wpAny_bind (wpAny_pure (wpAny_bind fin))
      | exact wpAny_bind fin
  | @cons x n cv o ts b₀ suite np pos' hds2 l2 hc hn hsu r ih =>
    intro w
    obtain ⟨b, hb1, hyes, hno⟩ := w
    have LT : PySem.W.Looks (model X.prog X.w) h3 (typeOf (.ref a)) cls := fun A Q E s k q => wpAny_typeOf_ref (k _ _ he3) (by rw [hz3.1]; exact q)
    have LM := PySem.W.exm_one (M := model X.prog X.w) (J3.kIn) LT hb1
    have test : ∀ {Q : Value → Shared → Prop} {E : Value → Shared → Prop}, Q cv { s' with heap := h3 } → wpAny (model X.prog X.w) (X.A.mark (some (.ref a))) (eval (.Name x np) X.env) Q E { s' with heap := h3 } := fun {Q E} q => by
      obtain ⟨hg, hdbg, hm | ⟨hm, hv, hnn⟩⟩ := hc
      · exact ld_glob (X := X.suite a ((a, oe3) :: (X.pn ++ pins))) S3 hg hm q hdbg
      · exact ld_blt (X := X.suite a ((a, oe3) :: (X.pn ++ pins))) S3 hg hm hv q hnn hdbg
    refine wpAny_handleBy_cons (codeAny_handlers_test (test (LM.here ?_))) (by intro q; cases q)
    cases b with
    | false => exact ih (hno rfl)
    | true =>
      have w1 := hyes rfl a c.na
      cases o with
      | none =>
        cases n with
        | some n => exact hn.elim
        | none =>
          refine codeAny_handlers_suite (HandSPX.lands_againZ c.fl fun h4 fl4 up4 => ?_)
          have J4 : Inv X pins σ H { s' with heap := h4 } := c.I.landed c.nb fl4.1 (c.up.trans up4) c.os c.ag
          obtain ⟨oe4, vs4, he4, hz4, hd4⟩ := fl4.there
          refine wpAny_mono ((hsu a oe4 cls d (X.pn ++ pins) hz4 ⟨_, hd4⟩).run [] _ _ H _ (J4.suite he4 hd4 c.na nL nF) w1) (fun f s6 hsp => ?_) (fun _ _ z => False.elim z)
          cases f with
          | ret u => obtain ⟨v6, σ6, H6, S6, r6, q6⟩ := hsp; exact ⟨_, _, _, S6.unsuite ok, r6, q6⟩
          | _ => obtain ⟨σ6, H6, S6, q6⟩ := hsp; exact ⟨_, _, S6.unsuite ok, q6⟩
      | some i =>
        cases n with
        | none => exact hn.elim
        | some n =>
          obtain ⟨hi, hln⟩ := hn
          refine codeAny_handlers_suite_as (HandSPX.lands_againZ c.fl fun h4 fl4 up4 => ?_)
          have J4 : Inv X pins σ H { s' with heap := h4 } := c.I.landed c.nb fl4.1 (c.up.trans up4) c.os c.ag
          obtain ⟨oe4, vs4, he4, hz4, hd4⟩ := fl4.there
          refine store_ok (X := X.suite a ((a, oe4) :: (X.pn ++ pins))) (v := .ref a) (J4.suite he4 hd4 c.na nL nF) hN hi (.inl hln) rfl (fun s5 S5 => ?_) (.inr hln)
          refine wpAny_mono ((hsu a oe4 cls d (X.pn ++ pins) hz4 ⟨_, hd4⟩).run [] s5 _ H _ S5 w1) (fun f s6 hsp => ?_) (fun _ _ z => False.elim z)
          have end_ : ∀ {σ6 : L2.St} {H6 : Hp} {Q : Shared → Prop}, Inv (X.suite a ((a, oe4) :: (X.pn ++ pins))) [] σ6 H6 s6 → (∀ s7, Inv X pins (σ6.set i none) H6 s7 → Q s7) →
              wpAny (model X.prog X.w) X.A (do bindName X.env n .none; unbindBehindTheSuite X.env n pos') (fun _ s7 => Q s7) X.xe s6 := fun {σ6 H6 Q} S6 hq => gone_ok (S6.unsuite ok) hN hi hln hq
          cases f with
          | ret u => obtain ⟨v6, σ6, H6, S6, r6, q6⟩ := hsp; exact end_ S6 fun s7 J7 => ⟨_, _, _, J7, r6, q6⟩
          | _ => obtain ⟨σ6, H6, S6, q6⟩ := hsp; exact end_ S6 fun s7 J7 => ⟨_, _, J7, q6⟩
theorem ps_tryH (hs : X.stack = X.env :: X.outer) (hf : X.env.frame = some X.env.locals) (hN : X.N.Nodup) (tk : Takes X Wout)
    (hb : ∀ (W : WX) (pn : List (Addr × Obj)) (xe : Value → Shared → Prop), Takes (X.tr pn xe) W → PassesOwn (model X.prog X.w) X.A X.env xe → PSs (X.tr pn xe) body (tb W))
    (hh : HsOk X (h₀ :: hds) l) : PS X (.Try body (h₀ :: hds) [] [] pos) (fun D σ H => tb (wH X.K Wout D l) D σ H) := by
  refine ⟨fun pins s σ H D I h => wpAny_Try_except ?_⟩
  have ok := I.ok
  have hfr : X.A.frames = some (X.env :: X.outer) := by rw [ok.frames, hs]
  refine wpAny_mono ((hb (wH X.K Wout D l) (X.pn ++ pins) (fun e s₁ => wpAny (model X.prog X.w) X.A (noteFrame e X.env) (fun _ s₂ => wpAny (model X.prog X.w) X.A (setFlight e none) (fun _ s₃ =>
    wpAny (model X.prog X.w) X.A (handleBy e X.env (h₀ :: hds)) (SP X pins D) X.xe s₃) X.xe s₂) X.xe s₁) (fun u s' xx => ?_) PassesOwn.looking).run [] s σ H D (I.toTry _) h) (fun f s1 hsp => ?_) (fun e s1 he => he)
  · obtain ⟨a, B, sI, pins', σ', H', cls, d, rfl, J', nb, up, sky, na, os, ag, w⟩ := xx
    have sky' : Sky B (X.env :: X.outer) a (Zc cls d) X.env.locals s'.heap := by rw [← hs]; exact sky
    show wpAny (model X.prog X.w) X.A (noteFrame (.ref a) X.env) _ _ _
    exact Sky.land Zc.steady hfr hf sky' fun h3 fl3 up3 => handle_all hs hf hN tk ⟨J'.ofTry ok, nb, up.trans up3, fl3, na, os, ag⟩ hh w
  · cases f with
    | next => obtain ⟨σ', H', J', q⟩ := hsp; exact wpAny_execs_nil ⟨σ', H', J'.ofTry ok, q⟩
    | ret u => obtain ⟨v, σ', H', J', r, q⟩ := hsp; exact ⟨v, σ', H', J'.ofTry ok, r, q⟩
    | _ => obtain ⟨σ', H', J', q⟩ := hsp; exact ⟨σ', H', J'.ofTry ok, q⟩
end
end Bw

namespace BwM
open PySem PySem.W PySem.Spec PySem.Calls PyProof.Rows
section
variable {prog : Program} {w : World} {A : Around} {E : Value → Shared → Prop} {s : Shared} {K : Frag} {x D : Addr} {ox : Obj} {od : Option Obj}
theorem found_any {C : Addr} {name : Str} {a g : Value} (hc : (clsIn K C).isSome = true) (ha : findIn K (.ref C) name = some (some a)) (hg : specialIn K a "__get__" = some (some g)) (ht : takesIn K a = some true) : findObj K C od name = some (.bind g a) := by
  obtain ⟨cd, hc⟩ := Option.isSome_iff_exists.mp hc
  unfold findObj
  rw [hc, Option.bind_some, ha, Option.bind_some]
  simp [hg, ht]
theorem cls_of_exc {Q : Option Value → Shared → Prop} (C : L2.ExcC K D) (X : K.In s.heap) (I : InstAt s.heap x ox D od) (h : Q (some (.ref D)) { s with toks := s.toks + 1 }) : wpAny (model prog w) A (getAttr? (.ref x) "__class__") Q E s := by
  have hf : findObj K D od "__class__" = some (.bind (.builtin "getset_descriptor.__get__") (.builtin "object.__class__")) := found_any (by obtain ⟨cd, hc, _⟩ := any_some C.hd; rw [hc]; rfl) C.ha C.hn C.ht
  obtain ⟨hp, g, d, t, os⟩ := s
  have T0 := I.type (M := model prog w)
  have T1 := looks_findIn (M := model prog w) X C.hg
  have T2 := looks_findIn (M := model prog w) X C.hk
  have T3 := looks_find (M := model prog w) X I hf
  have sub : Looks (model prog w) hp (isInstance (.ref x) (.type "BaseException")) true := T0.andThen (looks_subIn X C.hs)
  have e0 : (Value.builtin "BaseException.__getattribute__" == Value.builtin "object.__getattribute__") = false := by decide +kernel
  have e1 : (onTheHeap (Value.ref D) && Value.builtin "BaseException.__getattribute__" == Value.builtin "object.__getattribute__") = false := by rw [e0]; rfl
  unfold getAttr? getAttrBy? getAttrBy
  refine wpAny_bind (wpAny_mkText (wpAny_bind (wpAny_attempt (wpAny_holding (wpAny_bind (T0.at (wpAny_bind (T1.at ?_))))))))
  show wpAny _ _ (if (onTheHeap (Value.ref D) && Value.builtin "BaseException.__getattribute__" == Value.builtin "object.__getattribute__") = true then _ else _) _ _ _
  rw [e1, if_neg Bool.false_ne_true]
  unfold getAttrByItsOwn hookBefore
  refine wpAny_bind ?_
  rw [if_pos (show onTheHeap (Value.ref D) = true from rfl)]
  refine T2.at (wpAny_bind (wpAny_attempt (wpAny_holding ?_)))
  unfold callGetattribute
  rw [show (false && onTheHeap (Value.builtin "BaseException.__getattribute__")) = false from rfl, if_neg Bool.false_ne_true]
  unfold boundAndCalled
  rw [PySem.F.excAttr_ValueError.ga.bind (.ref x)]
  refine wpAny_bind (wpAny_pure ?_)
  show wpAny _ _ (call (.builtin "BaseException.__getattribute__") [.ref x, .str "__class__" t]) _ _ _
  refine wpAny_call (codeAny_call_builtin PySem.F.excAttr_ValueError.ga.plain PySem.F.entry_bexc_ga ?_)
  refine @check_slot (model prog w) _ _ ⟨hp, g, d, t + 1, os⟩ "BaseException.__getattribute__" "BaseException" "__getattribute__" (.ref x) [.str "__class__" t] [] _ (by decide +kernel) (by decide +kernel) sub (PySem.F.args_bexc_ga (.ref x) (.str "__class__" t)) ?_
  unfold Builtin.«object.__getattribute__»
  refine wpAny_bind (wpAny_of_eq (a := ((Value.ref x : Value), [Value.str "__class__" t])) (by first | rfl | (simp only [slotArgs]; rfl)) ?_)
  refine wpAny_bind (wpAny_pure (wpAny_bind (T0.at (wpAny_bind (T3.at ?_)))))
  show wpAny _ _ (holding [Value.builtin "object.__class__"] (call (.builtin "getset_descriptor.__get__") [.builtin "object.__class__", .ref x, .ref D]) >>= ret) _ _ _
  refine wpAny_bind (wpAny_holding (wpAny_call (class_get (s := ⟨hp, g, d, t + 1, os⟩) (ox := ox) (od := od) X I C.hm ?_)))
  refine wpAny_pure ?_
  show wpAny _ _ (handedOut (.ref D)) _ _ _
  rw [handedOut_of (v := .ref D) rfl]
  first
    | exact wpAny_pure (wpAny_pure h)
    | exact wpAny_pure h
    | exact wpAny_pure (wpAny_bind (wpAny_pure (wpAny_pure h)))
theorem kit_exc (C : L2.ExcC K D) : KitX K (.ref x) (.ref D) (fun h => InstAt h x ox D od) where
  ty := fun _ _ _ I => I.type
  it := fun _ _ X _ => by
    obtain ⟨cdD, hcD, _⟩ := any_some C.hd
    unfold clsIn at hcD
    split at hcD
    · rename_i ho
      intro A' Q' E' s' k q
      unfold isType loadHead
      exact wpAny_bind (wpAny_loadPart (k _ _ (X _ _ ho)) (wpAny_pure q))
    · cases hcD
  ne := fun h tp dd its n sl X htp => by
    obtain ⟨cdD, hcD, _⟩ := any_some C.hd
    refine Bool.eq_false_iff.mpr fun q => ?_
    have e : D = tp := Value.ref.inj (beq_iff_eq.mp q)
    subst e
    unfold clsIn at hcD
    split at hcD
    · rename_i ho
      cases (X _ _ ho).symm.trans htp
    · cases hcD
  ca := fun X I k => cls_of_exc C X I k
end
end BwM
namespace Bw
open PySem PySem.Spec PyProof.Rows L2
/-- isinstance(e, c), e the error that the suite holds (its dict may stand) -/
theorem call_isX {X : Cx} {a D : Addr} {oe : Obj} {dx : Option Addr} {pn : List (Addr × Obj)} (C : ExcC X.K D) (hz : Zc (.ref D) dx oe) (hf : ∃ vs, oe.data = .fields vs) :
    CallR (X.suite a ((a, oe) :: pn)) (.builtin "isinstance") (fun xs H Q => (∀ d, dx = some d → ∃ fs, H d = some (.xd fs)) ∧ rIsE X.K D a xs H Q) := by
  intro pins s σ H xs us Q I r h
  obtain ⟨hd, c, cv, b, rfl, hcv, e, q⟩ := h
  obtain ⟨u1, u2, rfl, r1, r2⟩ := vals2 r
  cases r1
  have ec := hcv _ r2
  subst ec
  obtain ⟨hget, _⟩ := I.pin (a, oe) (List.mem_append.mpr (.inl List.mem_cons_self))
  obtain ⟨vs, hv⟩ := hf
  have J : ∃ od, PySem.W.InstAt s.heap a oe D od := by
    obtain ⟨oc, odd, oda, osl⟩ := oe
    obtain ⟨h1, h2⟩ := hz
    dsimp only at h1 h2 hv
    subst h1 h2 hv
    cases odd with
    | none => exact ⟨none, hget, rfl, rfl, trivial⟩
    | some d =>
      obtain ⟨fs, hd⟩ := hd d rfl
      obtain ⟨mA, hns, _⟩ := (show ObjOk X.prog X.w H s.heap d (.xd fs) from I.hok d _ hd)
      obtain ⟨od, ho, _⟩ := lookIn_ns hns
      exact ⟨some od, hget, rfl, rfl, ho⟩
  obtain ⟨od, J⟩ := J
  exact PySem.W.kia_one (BwM.kit_exc (od := od) C) I.kIn J e (fun z => nomatch z) fun tk => ⟨.bl b, H, I.kept (t' := tk) fun _ _ z => z, rfl, q⟩
end Bw

namespace BwM
open PySem PySem.W PySem.Spec PySem.Calls PyProof.Rows

theorem int_mul_ref {M : Model} {A : Around} {E : Value → Shared → Prop} {h : Heap} {g : Array GenState} {d : Drawn} {t : Nat} {os : OsState} {x C dx : Addr} (a : Int) (tk : Tok) (hx : h.get? x = some (instObj C dx)) {Q : Fin → Shared → Prop}
    (hq : Q (.done (.ret .notImplemented)) ⟨h, g, d, t, os⟩) : wpAny M A (Builtin.«int.__mul__» ⟨[.int a tk, .ref x], []⟩) Q E ⟨h, g, d, t, os⟩ := by
  wp_walk
  exact hq
section
variable {prog : Program} {w : World} {A : Around} {E : Value → Shared → Prop} {s : Shared} {K : Frag} {x C f g L : Addr} {od : Option Obj} {h₀ : Heap} {m : Str → Option Value} {dx : Addr} {sl : Array (Option Value)}
structure Wr (P : Prop) : Prop where
  go : P
theorem call_mul_ref {hh : Heap} {gg : Array GenState} {d : Drawn} {tt : Nat} {os : OsState} {i : Int} {t : Tok} {Q : Value → Shared → Prop} (hx : hh.get? x = some (instObj C dx)) (hq : Wr (Q .notImplemented ⟨hh, gg, d, tt, os⟩)) :
    wpAny (model prog w) A (call (.builtin "int.__mul__") [.int i t, .ref x]) Q E ⟨hh, gg, d, tt, os⟩ :=
  wpAny_call_entry (b := Builtin.«int.__mul__») (self := .int i t) (rest := [.ref x]) F.slot_int_mul (typeIs_int _ i t) F.entry_int_mul (int_mul_ref i t hx ⟨_, rfl, hq.go⟩) (F.args_int_mul_2 (.int i t) (.ref x))
/-- i * o where the class of o has its own reflected method -/
theorem refl_mul {i : Int} {t : Tok} {Q : Value → Shared → Prop} (X : K.In s.heap) (I : InstAt s.heap x (instObj C dx) C od) (hc : selfFirst K C = true) (hs : findIn K (.ref C) (PySem.dunder "mul") = some (some (.ref g)))
    (hr : findIn K (.ref C) (dunderR "mul") = some (some (.ref f))) (hf : isFn K (.ref f) = true) (hsub : subIn K (.ref C) (.type "int") = some false)
    (h : wpAny (model prog w) A (call (.ref f) [.ref x, .int i t]) (W.CmpBack Q) E s) : wpAny (model prog w) A (binaryOp .Mult (.int i t) (.ref x)) Q E s := by
  obtain ⟨cd, rest, hcd, hm⟩ := ksp_first hc
  have one := ksp_try (Q := Q) X I hr hf h
  obtain ⟨hh, gg, d, tt, os⟩ := s
  have T1 : Looks (model prog w) hh (typeOf (.int i t)) (.type "int") := Looks.of_pure rfl
  have T2 : Looks (model prog w) hh (typeOf (.ref x)) (.ref C) := I.type
  have T3 : Looks (model prog w) hh (fillsNumberSlot (.type "int") "mul") true := Looks.of_pure F.fills_int_mul
  have T4 : Looks (model prog w) hh (fillsNumberSlot (.ref C) "mul") true := fills_K X hcd hm hs
  have T5 : Looks (model prog w) hh (isSubtype (.ref C) (.type "int")) false := looks_subIn X hsub
  have T6 : Looks (model prog w) hh (numberSlotInPython (.type "int") "mul") false := Looks.of_pure rfl
  have hne : (Value.type "int" == Value.ref C) = false := Bool.eq_false_iff.mpr fun q => by cases beq_iff_eq.mp q
  have lk : typeLookup (.type "int") (PySem.dunder "mul") = pure (some (.builtin "int.__mul__")) := by rw [typeLookup_type, builtinLookup_eq_fast]; kernel_rfl
  have T7 : Looks (model prog w) hh (specialOf (.int i t) (PySem.dunder "mul")) (some (.builtin "int.__mul__")) := T1.andThen (Looks.of_pure lk)
  have two : wpAny (model prog w) A (tryMethod (.int i t) (PySem.dunder "mul") (.ref x)) (fun r s' => r = none ∧ s' = ⟨hh, gg, d, tt, os⟩) E ⟨hh, gg, d, tt, os⟩ := by
    unfold tryMethod callSpecial?
    refine wpAny_bind ?_
    refine wpAny_bind ?_
    refine T7.at ?_
    refine wpAny_holding (wpAny_bind ?_)
    rw [show (Value.builtin "int.__mul__" : Value) = .builtin "int.__mul__" from rfl, F.slot_int_mul.bind]
    refine wpAny_pure ?_
    refine wpAny_bind ?_
    show wpAny _ _ (call (.builtin "int.__mul__") [.int i t, .ref x]) _ _ _
    exact call_mul_ref I.at_ ⟨wpAny_pure (wpAny_pure ⟨rfl, rfl⟩)⟩
  unfold binaryOp
  refine wpAny_holding (wpAny_bind ?_)
  unfold binaryOp1
  refine wpAny_bind (T1.at ?_)
  refine wpAny_bind (T2.at ?_)
  show wpAny (model prog w) A (fillsNumberSlot (.type "int") "mul" >>= _) _ _ _
  refine wpAny_bind (T3.at ?_)
  simp only [hne, Bool.false_eq_true, if_false]
  refine wpAny_bind (T4.at ?_)
  simp only [Bool.and_self, if_true]
  refine wpAny_bind (T5.at ?_)
  simp only [Bool.false_eq_true, if_false, Bool.not_false, Bool.and_self, if_true]
  refine wpAny_bind (T6.at ?_)
  simp only [Bool.false_eq_true, if_false]
  refine wpAny_bind (wpAny_mono two (fun r s' z => ?_) fun _ _ z => z)
  obtain ⟨rfl, rfl⟩ := z
  refine wpAny_bind (wpAny_mono one (fun r s' z => ?_) fun _ _ z => z)
  obtain ⟨v, rfl, q⟩ := z
  exact wpAny_bind (wpAny_rule (wpAny_pure (wpAny_pure q)))
end
end BwM

namespace Bw
open PySem PySem.Spec PyProof.Rows L2
section
variable {X : Cx} {W : WX} {k : Nat} {f g C : Addr} {sp : Sp} {a b o e : Expr} {es : List Expr} {ta tb : TE} {t : TA} {pos apos p : Pos} {nm : String} {m x : Str}
/-- a * b, a an int, b an instance of the class at C with its own reflected product -/
def tRefI (C : Addr) (sp : Sp) (W : WX) (ta tb : TE) : TE := fun σ H Q => ta σ H fun x H1 => tb σ H1 fun y H2 =>
  ∃ i b dx fs, x = .int i ∧ y = .ref b ∧ H2 b = some (.ins C dx fs) ∧ sp [y, x] H2 Q (WE W σ)
theorem pe_refI (O : OpF X.K C "mul" g) (hr : PySem.W.findIn X.K (.ref C) (PySem.dunderR "mul") = some (some (.ref f))) (hf : PySem.W.isFn X.K (.ref f) = true) (hs : PySem.W.subIn X.K (.ref C) (.type "int") = some false) (G : Call1 X W k f sp)
    (ha : PE X a ta) (hb : PE X b tb) : PE X (.BinOp a .Mult b pos) (tRefI C sp W ta tb) := by
  refine ⟨fun pins s σ H Q I h => ?_⟩
  refine wpAny_BinOp (binT ha hb I h fun v u s2 x y H2 I2 rx ry q => ?_)
  obtain ⟨i, b, dx, fs, rfl, rfl, h1, q⟩ := q
  cases ry
  obtain ⟨tk, rfl⟩ := (show ∃ t, v = Value.int i t from rx)
  obtain ⟨od, J⟩ := inst_at I2 h1
  exact BwM.refl_mul I2.kIn J O.self O.at_ hr hf hs (G.back (vs := [.ref b, .int i]) I2 (.cons rfl (.cons ⟨tk, rfl⟩ .nil)) q)
/-- x is True, x is False -/
def rIsL : R2 := fun x y H Q => ∃ b, y = .bl b ∧ Q (.bl (decide (x = .bl b))) H
theorem op_isL : OpR X (compareOp .Is) rIsL := by
  intro pins s σ H x y v u Q I rx ry h
  obtain ⟨b, rfl, q⟩ := h
  cases (show u = Value.bool b from ry)
  by_cases e : x = .bl b
  · subst e
    cases (show v = Value.bool b from rx)
    exact wpAny_is_self rfl ⟨.bl true, H, I, rfl, by simpa using q⟩
  · have hv : v ≠ .bool b := by
      intro z
      subst z
      cases x with
      | bl c => exact e (congrArg V.bl (Value.bool.inj (show Value.bool b = Value.bool c from rx)).symm)
      | non => exact nomatch (show Value.bool b = Value.none from rx)
      | int i => obtain ⟨t, q⟩ := (show ∃ t, Value.bool b = Value.int i t from rx); cases q
      | str i => obtain ⟨t, q⟩ := (show ∃ t, Value.bool b = Value.str i t from rx); cases q
      | byt i => obtain ⟨t, q⟩ := (show ∃ t, Value.bool b = Value.bytes i t from rx); cases q
      | flt i => obtain ⟨t, q⟩ := (show ∃ t, Value.bool b = Value.float i t from rx); cases q
      | ref a => exact nomatch (show Value.bool b = Value.ref a from rx)
      | ty n => exact nomatch (show Value.bool b = Value.type n from rx)
    have hs : ∀ w, w ≠ .bool b → RelV x w → plainIs w (.bool b) = true := by
      intro w hw rw'
      cases x with
      | bl c => cases (show w = Value.bool c from rw'); rfl
      | non => cases (show w = Value.none from rw'); rfl
      | int i => obtain ⟨t, q⟩ := (show ∃ t, w = Value.int i t from rw'); cases q; rfl
      | str i => obtain ⟨t, q⟩ := (show ∃ t, w = Value.str i t from rw'); cases q; rfl
      | byt i => obtain ⟨t, q⟩ := (show ∃ t, w = Value.bytes i t from rw'); cases q; rfl
      | flt i => obtain ⟨t, q⟩ := (show ∃ t, w = Value.float i t from rw'); cases q; rfl
      | ref a => cases (show w = Value.ref a from rw'); rfl
      | ty n => cases (show w = Value.type n from rw'); rfl
    exact wpAny_is_other (hs v hv rx) hv ⟨.bl false, H, I, rfl, by simpa [e] using q⟩
end
end Bw

namespace Bw
open PySem PySem.Spec PyProof.Rows L2
/-- a def that lets nothing out, to be called one level down -/
structure CallIn (X : Cx) (k : Nat) (f : Addr) (sp : Sp) : Prop where
  ex : ∃ (fd : FuncData) (ps : List Str), FnOk X.prog X.w X.K X.mg X.base (L2.CX X.prog X.w) k f fd ps sp ∧ Binds X.K fd ps []
  room : Room (k + 1) X.A
section
variable {X : Cx} {W : WX} {k : Nat} {f g C : Addr} {sp : Sp} {a b o e : Expr} {es : List Expr} {ta tb : TE} {t : TA} {pos apos p : Pos} {pins : List (Addr × Obj)} {σ : L2.St} {H : Hp} {s : Shared} {Q : VK} {nm : String} {m x : Str}
theorem CallIn.run (G : CallIn X k f sp) {vs : List V} {us : List Value} {E : Value → Shared → Prop} (I : Inv X pins σ H s) (r : Vals vs us) (h : sp vs H Q E0) :
    wpAny (model X.prog X.w) X.A.in1 (call (.ref f) us) (EP X pins σ Q) E s := by
  obtain ⟨fd, ps, F, B⟩ := G.ex
  have hl : us.length = ps.length := by rw [← r.length]; exact F.len _ _ _ _ h
  have b := B s us I.kIn (by rw [List.append_nil]; exact hl)
  rw [List.append_nil] at b
  refine wpAny_call (codeAny_mono (F.run X.A.in1 X.stack s H ⟨us, []⟩ us vs Q E0 G.room.in1 I.env0.in1 b r h) fun r s' hq => ?_)
  cases r with
  | error e => obtain ⟨_, _, _, _, _, _, _, _, _, _, _, _, z⟩ := hq; exact z.elim
  | ok fl =>
    cases fl with
    | ret u => exact I.after hq
    | _ => exact False.elim hq
/-- len(o), o an instance with its own __len__ -/
def rLenI (C : Addr) (sp : Sp) : List V → Hp → VK → Prop := fun vs H Q => ∃ a dx fs, vs = [.ref a] ∧ H a = some (.ins C dx fs) ∧ sp [.ref a] H (fun v H' => ∃ n : Nat, v = .int n ∧ n < 2 ^ 62 ∧ Q v H') E0
theorem call_lenI (h1 : PySem.W.findIn X.K (.ref C) "__len__" = some (some (.ref f))) (h2 : PySem.W.isFn X.K (.ref f) = true) (G : CallIn X k f sp) : CallR X (.builtin "len") (rLenI C sp) := by
  intro pins s σ H xs us Q I r h
  obtain ⟨a, dx, fs, rfl, ha, q⟩ := h
  obtain ⟨u, rfl, ru⟩ := vals1 r
  cases ru
  obtain ⟨od, J⟩ := inst_at I ha
  obtain ⟨m, hF⟩ := I.fr
  refine PySem.W.len_K hF I.ok.mod.kin J h1 h2 (wpAny_mono (G.run (vs := [.ref a]) I (.cons rfl .nil) q) (fun v s' z => ?_) fun _ _ z => z)
  obtain ⟨y, H', I', ry, n, rfl, hn, q'⟩ := z
  obtain ⟨tk, rfl⟩ := (show ∃ t, v = Value.int n t from ry)
  refine ⟨⟨Int.natCast_nonneg n, by omega⟩, ⟨.int n, H', ?_, ⟨_, rfl⟩, q'⟩⟩
  exact I'.tok _
/-- o.f, a property -/
theorem pe_propI {p : Addr} (c : Cls X.K C) (hp : PropOf X.K C m p f) (G : CallIn X k f sp) (he : PE X e ta) (hab : attributeBase e m X.env (eval e X.env) = eval e X.env := by rfl) : PE X (.Attribute e m pos) (tProp C sp [] E0 ta) := by
  obtain ⟨fd, ps, F, B⟩ := G.ex
  exact pe_prop he c hp F G.room B .nil passL hab
/-- a == b, a an instance with its own __eq__ -/
def tEqI (K : PySem.W.Frag) (C : Addr) (sp : Sp) (W : WX) (ta tb : TE) : TE := fun σ H Q => ta σ H fun x H1 => tb σ H1 fun y H2 =>
  ∃ a dx fs t, x = .ref a ∧ H2 a = some (.ins C dx fs) ∧ TyX K H2 y t ∧ PySem.W.notFirst K C t = true ∧ sp [x, y] H2 Q (WE W σ)
theorem pe_eqI (h1 : PySem.W.findIn X.K (.ref C) "__eq__" = some (some (.ref f))) (h2 : PySem.W.isFn X.K (.ref f) = true) (G : Call1 X W k f sp) (ha : PE X a ta) (hb : PE X b tb) : PE X (.Compare a [.Eq] [b] pos) (tEqI X.K C sp W ta tb) := by
  refine ⟨fun pins s σ H Q I h => wpAny_Compare1 (binT ha hb I h fun v u s2 x y H2 I2 rx ry q => ?_) (nomark _)⟩
  obtain ⟨a, dx, fs, t, rfl, h3, ty, hn, q⟩ := q
  cases rx
  obtain ⟨od, J⟩ := inst_at I2 h3
  obtain ⟨m, hF⟩ := I2.fr
  obtain ⟨P, Z, hp, _⟩ := kit_of I2 ry ty
  show wpAny _ _ (richCompare .Eq (.ref a) u) _ _ _
  have Lb : PySem.W.Looks (model X.prog X.w) s2.heap (typeOf u) t := Z.ty _ _ I2.kIn hp
  refine PySem.W.cmp_K (op := .Eq) G.room.units0 hF I2.ok.mod.kin J Lb hn h1 h2 (G.back (vs := [.ref a, y]) I2 (.cons rfl (.cons ry .nil)) q)
end
end Bw

namespace Bw
open PySem PySem.Spec PyProof.Rows L2
/-! ### short names of readings -/
abbrev wE (E : XK) : WX := fun cls d _ H => E cls d H
abbrev w0 : WX := fun _ _ _ _ => False
abbrev rAddI : R2 := rI0 fun i j => .int (i + j)
abbrev rSubI : R2 := rI0 fun i j => .int (i - j)
abbrev rMulW : R2 := rI CMulW fun i j => .int (i * j)
abbrev rModN : R2 := rI (fun _ j => j ≠ 0) fun i j => .int (i.fmod j)
abbrev rDivW : R2 := rI CDivW fun i j => .int (i / j)
abbrev rPowI : R2 := rI CPow fun i j => .int (i ^ j.toNat)
abbrev rOrI : R2 := rI0 fun i j => .int (Builtin.bitOr i j)
abbrev rAndI : R2 := rI0 fun i j => .int (Builtin.bitAnd i j)
abbrev rNegI : V → Hp → VK → Prop := rU fun i => .int (-i)
abbrev rLtI : R2 := rI0 fun i j => .bl (decide (i < j))
abbrev rLeI : R2 := rI0 fun i j => .bl (decide (i ≤ j))
abbrev rGtI : R2 := rI0 fun i j => .bl (decide (j < i))
abbrev rGeI : R2 := rI0 fun i j => .bl (decide (j ≤ i))
abbrev rIsNo : R2 := fun x y H Q => y = .non ∧ Q (.bl (decide (x = .non))) H
abbrev rNotNo : R2 := fun x y H Q => y = .non ∧ Q (.bl (!decide (x = .non))) H
abbrev rAddS : R2 := fun x y H Q => ∃ i j, x = .str i ∧ y = .str j ∧ i.length + j.length ≤ sizeLine ∧ Q (.str (i ++ j)) H
abbrev rLenQ (K : PySem.W.Frag) : List V → Hp → VK → Prop := fun xs H Q => ∃ p ys, xs = [.ref p] ∧ (SqL K H p ys ∨ SqT K H p ys) ∧ Q (.int ys.length) H
abbrev rLenStr : List V → Hp → VK → Prop := fun xs H Q => ∃ z, xs = [.str z] ∧ z.length ≤ sizeLine ∧ Q (.int z.length) H
abbrev rAbs : List V → Hp → VK → Prop := fun xs H Q => ∃ i, xs = [.int i] ∧ Q (.int (if i < 0 then -i else i)) H
def rInt1 : List V → Hp → VK → Prop := fun xs H Q => (∃ i, xs = [.int i] ∧ Q (.int i) H) ∨ ∃ k, xs = [.bl k] ∧ Q (.int (if k then 1 else 0)) H
abbrev rMin2 : List V → Hp → VK → Prop := fun xs H Q => ∃ i j, xs = [.int i, .int j] ∧ Q (.int (if j < i then j else i)) H
abbrev rMax2 : List V → Hp → VK → Prop := fun xs H Q => ∃ i j, xs = [.int i, .int j] ∧ Q (.int (if j > i then j else i)) H
abbrev rListOf (K : PySem.W.Frag) : List V → Hp → VK → Prop := fun xs H Q => ∃ p ys, xs = [.ref p] ∧ (SqL K H p ys ∨ SqT K H p ys) ∧ ∀ l, H l = none → Q (.ref l) (upd H l (.lst ys))
abbrev rStrI : List V → Hp → VK → Prop := fun xs H Q => ∃ i, xs = [.int i] ∧ i.natAbs.log2 < 1920 ∧ Q (.str (toString i)) H
def tRse (W : WX) (t : L2.St → Hp → XK → Prop) : TS := fun _ σ H => t σ H fun cls d H' => W cls d σ H'
def tMkP (C : Addr) : L2.St → Hp → XK → Prop := fun _ H Q => Q (.ref C) none H
def tTry (K : PySem.W.Frag) (Wout : WX) (tb : WX → TS) (l : List (Value × Option Nat × Suite)) : TS := fun D σ H => tb (wH K Wout D l) D σ H
/-! ### fields by a known class -/
def tFldI (C : Addr) (f : Str) (ta : TE) : TE := fun σ H Q => ta σ H fun x H1 => ∃ a dx fs v, x = .ref a ∧ H1 a = some (.ins C dx fs) ∧ fs.lookup f = some v ∧ Q v H1
def tConI (C : Addr) (f : Str) (v : V) (ta : TE) : TE := fun σ H Q => ta σ H fun x H1 => ∃ a dx fs, x = .ref a ∧ H1 a = some (.ins C dx fs) ∧ fs.lookup f = none ∧ Q v H1
def sFldI (C : Addr) (f : Str) (ta tv : TE) : TS := fun D σ H => tv σ H fun y H1 => ta σ H1 fun x H2 => ∃ a dx fs, x = .ref a ∧ H2 a = some (.ins C dx fs) ∧ fs.length < 1000 ∧ D.nx σ (upd H2 a (.ins C dx (putF f y fs)))
section
variable {X : Cx} {C : Addr} {e o value : Expr} {f : Str} {ta tv : TE} {pos pos' : Pos} {v : V}
theorem pe_fldI (c : Cls X.K C) (n : NoAttr X.K C f) (he : PE X e ta) (hb : attributeBase e f X.env (eval e X.env) = eval e X.env := by rfl) : PE X (.Attribute e f pos) (tFldI C f ta) := by
  refine ⟨fun pins s σ H Q I h => ?_⟩
  refine attr_of hb (thn (he.run pins s σ H _ I h) fun u s1 hh => ?_)
  obtain ⟨x, H1, I1, rx, a, dx, fs, v, rfl, ea, l, q⟩ := hh
  obtain rfl : u = Value.ref a := rx
  exact getattr_ok I1 ea c n l fun u' s2 I2 ru => ⟨v, H1, I2, ru, q⟩
theorem pe_conI (c : Cls X.K C) (n : ∃ u, Con X.K C f v u) (he : PE X e ta) (hb : attributeBase e f X.env (eval e X.env) = eval e X.env := by rfl) : PE X (.Attribute e f pos) (tConI C f v ta) := by
  refine ⟨fun pins s σ H Q I h => ?_⟩
  obtain ⟨u0, k⟩ := n
  refine attr_of hb (thn (he.run pins s σ H _ I h) fun u s1 hh => ?_)
  obtain ⟨x, H1, I1, rx, a, dx, fs, rfl, ea, l, q⟩ := hh
  obtain rfl : u = Value.ref a := rx
  exact getcon_ok I1 ea c k l fun s2 I2 => ⟨v, H1, I2, k.rel, q⟩
theorem ps_fldI (c : Cls X.K C) (n : NoAttr X.K C f) (ha : PE X o ta) (hv : PE X value tv) (hs : swapsWith value (some (.Attribute o f pos')) pos.line X.env = pure false) : PS X (.Assign [.Attribute o f pos'] value pos) (sFldI C f ta tv) := by
  refine ⟨fun pins s σ H D I h => ?_⟩
  refine plainObj_wpAny_Assign_Attribute (thn (hv.run pins s σ H _ I h) fun u s1 hh => ?_) hs
  obtain ⟨y, H1, I1, ry, q⟩ := hh
  refine thn (ha.run pins s1 σ H1 _ I1 q) fun ov s2 hh => ?_
  obtain ⟨x, H2, I2, rx, a, dx, fs, rfl, ea, l, q2⟩ := hh
  obtain rfl : ov = Value.ref a := rx
  exact setattr_ok I2 ea c n l ry fun s3 I3 => ⟨σ, _, I3, q2⟩
end
/-! ### facts of the written part -/
section
variable {K : PySem.W.Frag} {C : Addr} {f m : Str}
def fndB (K : PySem.W.Frag) (C : Addr) (m : Str) : Bool := He.eqO (PySem.W.findIn K (.ref C) m) (some (some (.ref (He.ma K C m)))) && PySem.W.isFn K (.ref (He.ma K C m))
theorem fnd1 (h : fndB K C m = true) : PySem.W.findIn K (.ref C) m = some (some (.ref (He.ma K C m))) := He.eqO_ok (He.ba h).1
theorem fnd2 (h : fndB K C m = true) : PySem.W.isFn K (.ref (He.ma K C m)) = true := (He.ba h).2
/-- the getter of a property -/
def getter (K : PySem.W.Frag) (C : Addr) (f : Str) : Addr := match PySem.W.recIn K (He.ma K C f) "property" with
  | some (.ref g :: _) => g
  | _ => 0
def propB (K : PySem.W.Frag) (C : Addr) (f : Str) : Bool := He.eqO (PySem.W.findIn K (.ref C) f) (some (some (.ref (He.ma K C f)))) && (He.eqO (PySem.W.specialIn K (.ref (He.ma K C f)) "__get__") (some (some (.builtin "property.__get__"))) &&
  (decide (PySem.W.takesIn K (.ref (He.ma K C f)) = some true) && (match PySem.W.recIn K (He.ma K C f) "property" with
    | some (.ref _ :: _) => true
    | _ => false)))
theorem propB_ok (h : propB K C f = true) : PropOf K C f (He.ma K C f) (getter K C f) := by
  obtain ⟨h1, h⟩ := He.ba h
  obtain ⟨h2, h⟩ := He.ba h
  obtain ⟨h3, h4⟩ := He.ba h
  refine ⟨He.eqO_ok h1, He.eqO_ok h2, of_decide_eq_true h3, ?_⟩
  unfold getter
  split at h4
  · rename_i g rest e
    rw [e]
    exact ⟨rest, rfl⟩
  · cases h4
def conB (K : PySem.W.Frag) (C : Addr) (f : Str) (v : Int) : Bool := (match PySem.W.findIn K (.ref C) f with
  | some (some (.int j t)) => decide (j = v) && He.eqO (PySem.W.specialIn K (.int j t) "__get__") (some none)
  | _ => false) && !PySem.W.copiedNames.contains f
theorem conB_ok {v : Int} (h : conB K C f v = true) : ∃ u, Con K C f (.int v) u := by
  obtain ⟨h1, h2⟩ := He.ba h
  split at h1
  · rename_i j t e
    obtain ⟨h1, h3⟩ := He.ba h1
    cases of_decide_eq_true h1
    refine ⟨_, e, ⟨t, rfl⟩, ?_, by simpa using h2⟩
    have := He.eqO_ok h3
    exact this
  · cases h1
def excCB (K : PySem.W.Frag) (D : Addr) : Bool := He.eqO (PySem.W.findIn K (.ref D) "__getattribute__") (some (some (.builtin "BaseException.__getattribute__"))) && (He.eqO (PySem.W.findIn K (.ref D) "__getattr__") (some none) &&
  (decide (PySem.W.subIn K (.ref D) (.type "BaseException") = some true) && (PySem.W.hasDictIn K D && (He.eqO (PySem.W.findIn K (.ref D) "__class__") (some (some (.builtin "object.__class__"))) &&
  (He.eqO (PySem.W.specialIn K (.builtin "object.__class__") "__get__") (some (some (.builtin "getset_descriptor.__get__"))) && (decide (PySem.W.takesIn K (.builtin "object.__class__") = some true) && decide (PySem.W.mroIn K D (.type "object") = some true)))))))
theorem excCB_ok {D : Addr} (h : excCB K D = true) : ExcC K D := by
  obtain ⟨h1, h⟩ := He.ba h
  obtain ⟨h2, h⟩ := He.ba h
  obtain ⟨h3, h⟩ := He.ba h
  obtain ⟨h4, h⟩ := He.ba h
  obtain ⟨h5, h⟩ := He.ba h
  obtain ⟨h6, h⟩ := He.ba h
  obtain ⟨h7, h8⟩ := He.ba h
  exact ⟨He.eqO_ok h1, He.eqO_ok h2, of_decide_eq_true h3, h4, He.eqO_ok h5, He.eqO_ok h6, of_decide_eq_true h7, of_decide_eq_true h8⟩
end
/-- isinstance(e, c) in a suite: what the clause's class is, is known behind the raise alone -/
def rIsXx (K : PySem.W.Frag) (cls : Value) (a : Addr) (dx : Option Addr) : List V → Hp → VK → Prop := fun xs H Q => ∃ D, cls = .ref D ∧ excCB K D = true ∧ (∀ d, dx = some d → ∃ fs, H d = some (.xd fs)) ∧ rIsE K D a xs H Q
theorem call_isXx {X : Cx} {a : Addr} {oe : Obj} {cls : Value} {dx : Option Addr} {pn : List (Addr × Obj)} (hz : Zc cls dx oe) (hf : ∃ vs, oe.data = .fields vs) :
    CallR (X.suite a ((a, oe) :: pn)) (.builtin "isinstance") (rIsXx X.K cls a dx) := by
  intro pins s σ H xs us Q I r h
  obtain ⟨D, rfl, c, q⟩ := h
  exact call_isX (excCB_ok c) hz hf pins s σ H xs us Q I r q
/-- a module's constant -/
theorem pe_gint {X : Cx} {x : Str} {v : Int} {pos : Pos} (hg : Gl X x) (hm : ∃ t, X.mg x = some (.int v t)) (hdb : (x == ("__debug__" : Str)) = false := by decide) : PE X (.Name x pos) (tC (.int v)) := by
  refine ⟨fun pins s σ H Q I h => ?_⟩
  obtain ⟨t, hm⟩ := hm
  exact ld_glob I hg hm ⟨.int v, H, I, ⟨t, rfl⟩, h⟩ hdb
theorem pe_gstr {X : Cx} {x v : Str} {pos : Pos} (hg : Gl X x) (hm : ∃ t, X.mg x = some (.str v t)) (hdb : (x == ("__debug__" : Str)) = false := by decide) : PE X (.Name x pos) (tC (.str v)) := by
  refine ⟨fun pins s σ H Q I h => ?_⟩
  obtain ⟨t, hm⟩ := hm
  exact ld_glob I hg hm ⟨.str v, H, I, ⟨t, rfl⟩, h⟩ hdb
/-- two readings of one expression: either -/
theorem pe_alt {X : Cx} {e : Expr} {t t' : TE} (h : PE X e t) (h' : PE X e t') : PE X e (fun σ H Q => t σ H Q ∨ t' σ H Q) := ⟨fun pins s σ H Q I z => z.elim (h.run pins s σ H Q I) (h'.run pins s σ H Q I)⟩
/-! ### what is known of the program that stands -/
structure Tx (fl : List (PySem.W.Frag → Bool)) (fn : List DX) (P : Program) (w : World) (K : PySem.W.Frag) (mg : Str → Option Value) (base : Heap) : Prop where
  ki : K.In base
  ns : base.Ns mainGlobals mg
  says : SaysX (fun K => fl.all fun f => f K) fn K
section
variable {fl : List (PySem.W.Frag → Bool)} {fn : List DX} {P : Program} {w : World} {K : PySem.W.Frag} {mg : Str → Option Value} {base : Heap}
theorem Tx.fa (T : Tx fl fn P w K mg base) (i : Nat) {f : PySem.W.Frag → Bool} (h : fl[i]? = some f) : f K = true := List.all_eq_true.mp T.says.facts f (List.mem_of_getElem? h)
theorem Tx.glo (T : Tx fl fn P w K mg base) (x : Str) (h : (He.Fa.glo x).ok K = true) : mg x = some (.ref (He.ga K x)) := He.glo_ok T.ki T.ns h
theorem Tx.free (T : Tx fl fn P w K mg base) (x : Str) (h : (He.Fa.free x).ok K = true) : mg x = none := He.free_ok T.ki T.ns h
theorem Tx.intc (T : Tx fl fn P w K mg base) (x : Str) (v : Int) (h : (He.Fa.int x v).ok K = true) : ∃ t, mg x = some (.int v t) := He.int_ok T.ki T.ns h
theorem Tx.strc (T : Tx fl fn P w K mg base) (x v : Str) (h : (He.Fa.str x v).ok K = true) : ∃ t, mg x = some (.str v t) := He.str_ok T.ki T.ns h
theorem Tx.df (T : Tx fl fn P w K mg base) (i : Nat) {d : DX} (h : fn[i]? = some d) (hc : d.cl = [] := by rfl) : ∃ fd, FnX K d fd := T.says.def_ i h hc
end
/-! ### a def keeps its promise -/
def OkF (P : Program) (w : World) (K : PySem.W.Frag) (mg : Str → Option Value) (base : Heap) (k : Nat) (f : Addr) (sp : Sp) : Prop :=
  ∃ (fd : FuncData) (ps : List Str), FnOk P w K mg base (L2.CX P w) k f fd ps sp ∧ Binds K fd ps []
section
variable {P : Program} {w : World} {K : PySem.W.Frag} {mg : Str → Option Value} {base : Heap}
theorem okf_of {d : DX} {N ps : List Str} {k : Nat} {sp : Sp} {t : XK → TS} (h : ∃ fd, FnX K d fd) (S : FnScope N ps (defScope d.st)) (len : ∀ vs H Q E, sp vs H Q E → vs.length = ps.length)
    (bind : ∀ (kV doc pm : Value) (an : Option Addr) (cdv ct : Value) (us : List Value), us.length = ps.length → bindArgs (PySem.W.fnOf d.nm d.qn (defArgs d.st) (defBody d.st) (defScope d.st) .none kV doc pm an cdv ct) ⟨us, []⟩ = pure (ps.zip us))
    (walk : ∀ (cdv : Value) (A : Around) (outer : List Env) (s : Shared) (H : Hp) (E : XK), N.Nodup → Takes (cxOf (L2.CX P w) P w K mg base N d.qn (defScope d.st) (d.pl K) cdv A outer s H E) (wE E) →
      Room k (A.deeper (envOfC d.qn (defScope d.st) s.heap.objs.size (d.pl K) cdv)) → PSs (cxOf (L2.CX P w) P w K mg base N d.qn (defScope d.st) (d.pl K) cdv A outer s H E) (defBody d.st) (t E))
    (pure_ : ∀ vs H Q E, sp vs H Q E → t E { nx := fun _ H' => Q .non H', rt := Q } (start N vs) H) : OkF P w K mg base (k + 1) (d.pl K) sp := by
  obtain ⟨fd, F⟩ := h
  exact ⟨fd, ps, F.okX S len fun cdv A outer s H vs Q E hr hsp => ⟨t E, walk cdv A outer s H E S.nd (takes_of rfl rfl rfl rfl) hr, pure_ vs H Q E hsp⟩, F.binds bind⟩
theorem OkF.imp {k : Nat} {f : Addr} {sp sp' : Sp} (F : OkF P w K mg base k f sp) (h : ∀ vs H Q E, sp' vs H Q E → sp vs H Q E) : OkF P w K mg base k f sp' := by
  obtain ⟨fd, ps, G, B⟩ := F
  exact ⟨fd, ps, G.imp h, B⟩
theorem OkF.mono {j k : Nat} {f : Addr} {sp : Sp} (F : OkF P w K mg base j f sp) (h : j ≤ k) : OkF P w K mg base k f sp := by
  obtain ⟨fd, ps, G, B⟩ := F
  exact ⟨fd, ps, G.mono h, B⟩
end
end Bw
namespace Bw
open PySem PySem.Spec PyProof.Rows L2
theorem rInt1_int {i : Int} {H : Hp} {Q : VK} : rInt1 [V.int i] H Q = Q (.int i) H := by
  refine propext ⟨fun h => ?_, fun h => .inl ⟨i, rfl, h⟩⟩
  rcases h with ⟨j, e, q⟩ | ⟨k, e, q⟩
  · cases e; exact q
  · cases e
end Bw
namespace Bw
open PySem PySem.Spec PyProof.Rows L2
section
variable {P : Program} {w : World} {K : PySem.W.Frag} {mg : Str → Option Value} {base : Heap}
/-- as okf_of, of a function object at hand -/
theorem okf_at {d : DX} {N ps : List Str} {k : Nat} {sp : Sp} {t : XK → TS} {fd : FuncData} (F : FnX K d fd) (S : FnScope N ps (defScope d.st)) (len : ∀ vs H Q E, sp vs H Q E → vs.length = ps.length)
    (walk : ∀ (cdv : Value) (A : Around) (outer : List Env) (s : Shared) (H : Hp) (E : XK), N.Nodup → Takes (cxOf (L2.CX P w) P w K mg base N d.qn (defScope d.st) (d.pl K) cdv A outer s H E) (wE E) →
      Room k (A.deeper (envOfC d.qn (defScope d.st) s.heap.objs.size (d.pl K) cdv)) → PSs (cxOf (L2.CX P w) P w K mg base N d.qn (defScope d.st) (d.pl K) cdv A outer s H E) (defBody d.st) (t E))
    (pure_ : ∀ vs H Q E, sp vs H Q E → t E { nx := fun _ H' => Q .non H', rt := Q } (start N vs) H) : FnOk P w K mg base (L2.CX P w) (k + 1) (d.pl K) fd ps sp :=
  F.okX S len fun cdv A outer s H vs Q E hr hsp => ⟨t E, walk cdv A outer s H E S.nd (takes_of rfl rfl rfl rfl) hr, pure_ vs H Q E hsp⟩
/-- a def that lets nothing out, whatever is wished of an exception -/
theorem fn0 {k : Nat} {f : Addr} {fd : FuncData} {ps : List Str} {sp : Sp} (F : FnOk P w K mg base (L2.CX P w) k f fd ps sp) (h : ∀ vs H Q E, sp vs H Q E → sp vs H Q L2.E0) : FnOk P w K mg base L2.CX0 k f fd ps sp :=
  ⟨F.len, fun A outer s H args us vs Q E hr e0 b v hs => codeAny_mono (F.run A outer s H args us vs Q L2.E0 hr e0 b v (h _ _ _ _ hs)) fun r s' q => by
    cases r with
    | ok fl => cases fl <;> exact q
    | error e => obtain ⟨_, _, _, _, _, _, _, _, _, _, _, _, z⟩ := q; exact z.elim⟩
end
end Bw

namespace Bw
open PySem PySem.Spec PyProof.Rows L2
/-! ### an own error's __init__ as it stands in the written part -/
def cellB (K : PySem.W.Frag) (a C : Addr) (file : Str) : Bool := match K.lookup a with
  | some o => (match o.data with
    | .func fd => (match fd.closure with
      | [(_, cc)] => (match K.lookup cc with
        | some oc => (match oc.data with
          | .cell (some (.ref c)) => decide (c = C)
          | _ => false)
        | none => false)
      | _ => false) && (match fd.code with
      | .ref cda => (match K.lookup cda with
        | some oc => (match oc.data with
          | .fields vs => (match (vs[2]? : Option Value) with
            | some (.str f _) => file == f
            | _ => false)
          | _ => false)
        | none => false)
      | _ => false)
    | _ => false)
  | none => false
theorem exT_of {P : Program} {K : PySem.W.Frag} {d : DX} {C : Addr} {file : Str} (hc : d.cl = [("__class__" : Str)]) (hs : seenAt K (d.pl K) = d.val ∧ codeOkAt K (d.pl K) d.qn = true) (hb : cellB K (d.pl K) C file = true) (hf : P.main.file = file) (ht : (P.main.scope.names.lookup ("super" : Str)).isSome = false) :
    ∃ cda cc, BwM.ExT K P C (d.pl K) d.nm d.qn d.st cda cc := by
  obtain ⟨h1, h2⟩ := hs
  obtain ⟨kp, c⟩ := He.ba h2
  unfold seenAt at h1
  unfold cellB at hb
  cases e : K.lookup (d.pl K) with
  | none => rw [e] at c; cases c
  | some o =>
    obtain ⟨oc, od, dt, osl⟩ := o
    rw [e] at c h1 hb
    cases dt with
    | func fd =>
      obtain ⟨n1, n2, n3, n4, n5, n6, n7, n8, n9, n10, n11, n12, n13, n14, n15⟩ := fd
      simp only [DX.val, Option.some.injEq, Prod.mk.injEq] at h1
      obtain ⟨h1, h2, h3, h4, h5, h6, h7, h8⟩ := h1
      rw [hc] at h7
      obtain ⟨b1, b2⟩ := He.ba hb
      obtain ⟨k1, k2⟩ := He.ba c
      subst h1 h2 h3 h4 h5 h6 h8
      cases n8 with
      | none =>
        dsimp only at b1 b2 h7 k1
        cases n7 with
        | nil => cases b1
        | cons q r =>
          obtain ⟨qn, cc⟩ := q
          cases r with
          | cons _ _ => cases b1
          | nil =>
            cases List.head_eq_of_cons_eq h7
            dsimp only at b1 b2
            cases n13 with
            | ref cda =>
              dsimp only at b2
              refine ⟨cda, cc, ⟨oc, od, osl, n9, n10, n11, n12, n14, e⟩, k1, ?_, ?_, ht⟩
              · cases e2 : K.lookup cda with
                | none => rw [e2] at b2; cases b2
                | some o2 =>
                  obtain ⟨oc2, od2, dt2, osl2⟩ := o2
                  rw [e2] at b2
                  cases dt2 with
                  | fields vs =>
                    dsimp only at b2
                    cases e3 : vs[2]? with
                    | none => rw [e3] at b2; cases b2
                    | some v =>
                      rw [e3] at b2
                      cases v with
                      | str f t => exact ⟨_, _, _, _, f, t, rfl, e3, by rw [hf]; exact b2⟩
                      | _ => cases b2
                  | _ => cases b2
              · cases e2 : K.lookup cc with
                | none => rw [e2] at b1; cases b1
                | some o2 =>
                  obtain ⟨oc2, od2, dt2, osl2⟩ := o2
                  rw [e2] at b1
                  cases dt2 with
                  | cell v =>
                    cases v with
                    | none => cases b1
                    | some v =>
                      cases v with
                      | ref c =>
                        cases of_decide_eq_true b1
                        exact ⟨_, _, _, rfl⟩
                      | _ => cases b1
                  | _ => cases b1
            | _ => cases b2
      | _ => cases k2
    | _ => cases c
def exfB (K : PySem.W.Frag) (C fI : Addr) : Bool := PySem.W.excInitIn K C He.veBase "ValueError.__new__" && ((match PySem.W.clsIn K C with
    | some cd => PySem.HandSPX.refsVE cd.mro && cd.hasDict
    | none => false) && (He.eqO (PySem.W.findIn K (.ref C) "__setattr__") (some (some (.builtin "object.__setattr__"))) && (He.eqO (PySem.W.findIn K (.ref C) "__init__") (some (some (.ref fI))) &&
  (decide (PySem.W.typeIn K (.ref fI) = some (.type "function")) && (He.eqO (PySem.W.ks_superIn K C C "__init__") (some (some (.builtin "ValueError.__init__"))) && (decide (PySem.W.subIn K (.ref C) (.type "ValueError") = some true) &&
  (decide (PySem.W.mroIn K C (.ref C) = some true) && (He.eqO (PySem.W.nsIn K cStatics "thirdparty.any") (some none) && (decide (PySem.W.subIn K (.ref C) (.type "BaseException") = some true) && (decide (PySem.W.typeIn K (.ref C) = some (.type "type")) && PySem.W.keepIn K (.ref C)))))))))))
theorem exf_ok {K : PySem.W.Frag} {C fI : Addr} (h : exfB K C fI = true) : BwM.ExF K C fI ∧ PySem.W.subIn K (.ref C) (.type "BaseException") = some true ∧ PySem.W.typeIn K (.ref C) = some (.type "type") ∧ PySem.W.keepIn K (.ref C) = true := by
  obtain ⟨h1, h⟩ := He.ba h
  obtain ⟨h2, h⟩ := He.ba h
  obtain ⟨h3, h⟩ := He.ba h
  obtain ⟨h4, h⟩ := He.ba h
  obtain ⟨h5, h⟩ := He.ba h
  obtain ⟨h6, h⟩ := He.ba h
  obtain ⟨h7, h⟩ := He.ba h
  obtain ⟨h8, h⟩ := He.ba h
  obtain ⟨h9, h⟩ := He.ba h
  obtain ⟨ha, h⟩ := He.ba h
  obtain ⟨hb, hk⟩ := He.ba h
  refine ⟨⟨h1, ?_, He.eqO_ok h3, He.eqO_ok h4, of_decide_eq_true h5, He.eqO_ok h6, of_decide_eq_true h7, of_decide_eq_true h8, He.eqO_ok h9⟩, of_decide_eq_true ha, of_decide_eq_true hb, hk⟩
  split at h2
  · rename_i cd e
    obtain ⟨x, y⟩ := He.ba h2
    exact ⟨cd, e, x, y⟩
  · cases h2
section
variable {fl : List (PySem.W.Frag → Bool)} {fn : List DX} {P : Program} {w : World} {K : PySem.W.Frag} {mg : Str → Option Value} {base : Heap} {C : Addr} {file nm : Str} {d : DX}
theorem exk1 {y f : Str} (T : Tx fl fn P w K mg base) (i : Nat) (h : fn[i]? = some d) (hc : d.cl = [("__class__" : Str)]) (hcell : cellB K (d.pl K) C file = true) (hx : exfB K C (d.pl K) = true) (hsup : (He.Fa.free "super").ok K = true) (hg : mg nm = some (.ref C))
    (hn : PySem.W.findIn K (.ref C) f = some none) (hf : P.main.file = file) (ht : (P.main.scope.names.lookup ("super" : Str)).isSome = false) (S : BwM.Txt1 d.st y f) : ExK P w K mg C (d.pl K) nm ok1 (fs1 f) := by
  obtain ⟨cda, cc, E⟩ := exT_of (P := P) hc (T.says.seen i h) hcell hf ht
  obtain ⟨h1, h2, h3, h4⟩ := exf_ok hx
  exact ⟨h1, T.free "super" hsup, h2, h3, h4, hg, fun vs ok => by obtain ⟨v, rfl⟩ := ok; show 1 ≤ 1000; decide, fun vs us ok r => run1 h1 E S hn vs us ok r⟩
theorem exk2 {y f y2 f2 : Str} (T : Tx fl fn P w K mg base) (i : Nat) (h : fn[i]? = some d) (hc : d.cl = [("__class__" : Str)]) (hcell : cellB K (d.pl K) C file = true) (hx : exfB K C (d.pl K) = true) (hsup : (He.Fa.free "super").ok K = true) (hg : mg nm = some (.ref C))
    (hn : PySem.W.findIn K (.ref C) f = some none) (hn2 : PySem.W.findIn K (.ref C) f2 = some none) (hf : P.main.file = file) (ht : (P.main.scope.names.lookup ("super" : Str)).isSome = false) (S : BwM.Txt2 d.st y f y2 f2) : ExK P w K mg C (d.pl K) nm ok2 (fs2 f f2) := by
  obtain ⟨cda, cc, E⟩ := exT_of (P := P) hc (T.says.seen i h) hcell hf ht
  obtain ⟨h1, h2, h3, h4⟩ := exf_ok hx
  exact ⟨h1, T.free "super" hsup, h2, h3, h4, hg, fun vs ok => by obtain ⟨z, v, rfl, _⟩ := ok; show 2 ≤ 1000; decide, fun vs us ok r => run2 h1 E S hn hn2 vs us ok r⟩
end
end Bw

namespace Bw
open PySem PySem.Spec PyProof.Rows L2
/-! ### heaps that grow -/
def Ext (H H' : Hp) : Prop := ∀ a o, H a = some o → H' a = some o
theorem Ext.refl (H : Hp) : Ext H H := fun _ _ h => h
theorem Ext.trans {H H1 H2 : Hp} (a : Ext H H1) (b : Ext H1 H2) : Ext H H2 := fun c o h => b c o (a c o h)
section
variable {K : PySem.W.Frag} {H H1 H2 : Hp} {a p : Addr} {xs : List V} {o : HO}
theorem ext_set (x : Ext H H1) (h : H p = none) : Ext H (upd H1 p o) := fun b u e => by rw [upd_ne (ne_of_none e h)]; exact x b u e
theorem ext_new (h : H p = none) : Ext H (upd H p o) := ext_set (fun _ _ z => z) h
theorem sqL_ext (x : Ext H H1) (h : SqL K H a xs) : SqL K H1 a xs := by
  rcases h with (h | ⟨o, h⟩) | h
  · exact .inl (.inl (x _ _ h))
  · exact .inl (.inr ⟨o, x _ _ h⟩)
  · exact .inr h
theorem sqT_ext (x : Ext H H1) (h : SqT K H a xs) : SqT K H1 a xs := by
  rcases h with (h | ⟨o, h⟩) | h
  · exact .inl (.inl (x _ _ h))
  · exact .inl (.inr ⟨o, x _ _ h⟩)
  · exact .inr h
theorem sqL_of (h : H a = some (.lst xs)) : SqL K H a xs := .inl (.inl h)
theorem sqT_of (h : H a = some (.tup xs)) : SqT K H a xs := .inl (.inl h)
theorem fr_of (x : Ext H H1) (h : H1 p = none) : H p = none := by
  cases e : H p with
  | none => rfl
  | some o => rw [x _ _ e] at h; cases h
end
/-! ### what an iterator gives -/
def SrcAt (J : It) (xs : List V) (H : Hp) : Prop := ∀ i, (∀ x, xs[i]? = some x → J.go i H ∧ ∀ y H', J.yld i H y H' → H' = H ∧ y = x) ∧ (xs.length ≤ i → J.stop i H)
section
variable {K : PySem.W.Frag} {H H1 : Hp} {a : Addr} {xs : List V}
theorem src_list (h : SqL K H a xs) : SrcAt (Itl K a) xs H := fun i => ⟨fun x e => ⟨⟨xs, x, h, e⟩, fun y H' q => ⟨q.1, Option.some.inj ((q.2 xs h).symm.trans e)⟩⟩, fun l => ⟨xs, h, l⟩⟩
theorem src_tup (h : SqT K H a xs) : SrcAt (Itt K a) xs H := fun i => ⟨fun x e => ⟨⟨xs, x, h, e⟩, fun y H' q => ⟨q.1, Option.some.inj ((q.2 xs h).symm.trans e)⟩⟩, fun l => ⟨xs, h, l⟩⟩
def rngV (lo : Int) (n : Nat) : List V := (List.range n).map fun i => V.int (lo + (i : Nat))
theorem rngV_get {lo : Int} {n i : Nat} : (rngV lo n)[i]? = if i < n then some (V.int (lo + (i : Nat))) else none := by
  unfold rngV
  by_cases h : i < n
  · rw [if_pos h, List.getElem?_map, List.getElem?_range h]
    rfl
  · rw [if_neg h, List.getElem?_eq_none (by simp; omega)]
theorem rngV_len {lo : Int} {n : Nat} : (rngV lo n).length = n := by simp [rngV]
theorem src_rng {lo : Int} {n : Nat} : SrcAt (Itr lo n) (rngV lo n) H := by
  intro i
  refine ⟨fun x e => ?_, fun l => by rw [rngV_len] at l; exact l⟩
  rw [rngV_get] at e
  by_cases h : i < n
  · rw [if_pos h] at e
    cases e
    exact ⟨h, fun y H' q => ⟨q.1, q.2⟩⟩
  · rw [if_neg h] at e
    cases e
end
/-! ### for -/
theorem forS {J : It} {xs : List V} {g : TG} {tb : TS} {D : Ends} {σ : L2.St} {H : Hp} (Pv : Nat → L2.St → Hp → Prop) (h0 : Pv 0 σ H) (hl : ∀ i σ H, i ≤ xs.length → Pv i σ H → SrcAt J xs H)
    (hs : ∀ i x σ H, xs[i]? = some x → Pv i σ H → g x σ H fun σ2 H2 => tb { D with nx := Pv (i + 1), ct := Pv (i + 1), bk := D.nx } σ2 H2) (hd : ∀ σ H, Pv xs.length σ H → D.nx σ H) :
    ∃ W : Nat → Nat → L2.St → Hp → Prop, (∃ m, W 0 m σ H) ∧ ∀ i m σ H, W i m σ H →
      (J.stop i H ∧ D.nx σ H) ∨ (J.go i H ∧ ∃ N : L2.St → Hp → Prop, (∀ σ' H', N σ' H' → ∃ m', m' < m ∧ W (i + 1) m' σ' H') ∧ ∀ x H', J.yld i H x H' → g x σ H' fun σ2 H2 => tb { D with nx := N, ct := N, bk := D.nx } σ2 H2) := by
  refine ⟨fun i m σ H => m = xs.length - i ∧ i ≤ xs.length ∧ Pv i σ H, ⟨xs.length, by simp, Nat.zero_le _, h0⟩, ?_⟩
  rintro i m σ H ⟨rfl, hi, p⟩
  have q := hl i σ H hi p i
  by_cases hlt : i < xs.length
  · have e : xs[i]? = some xs[i] := List.getElem?_eq_getElem hlt
    obtain ⟨q1, q2⟩ := q.1 _ e
    refine .inr ⟨q1, Pv (i + 1), fun σ' H' p' => ⟨xs.length - (i + 1), by omega, rfl, hlt, p'⟩, fun x H' y => ?_⟩
    obtain ⟨e1, e2⟩ := q2 x H' y
    subst e1 e2
    exact hs i _ σ _ e p
  · have e : i = xs.length := by omega
    subst e
    exact .inl ⟨q.2 (Nat.le_refl _), hd _ _ p⟩
/-! ### comprehensions -/
theorem lcS {J : It} {xs : List V} {g : TG} {tt : TT} {te : TE} {vs : List Nat} {σ : L2.St} {H1 : Hp} {D : Addr} {Qd : Hp → Prop} (Pv : Nat → Hp → Prop) (h0 : Pv 0 (upd H1 D (.lst []))) (hl : ∀ i H, i ≤ xs.length → Pv i H → SrcAt J xs H)
    (hs : ∀ i x H, xs[i]? = some x → Pv i H → g x (wipe σ vs) H fun σ2 H2 => wipe σ2 vs = wipe σ vs ∧ tt σ2 H2 fun b H3 =>
      if b = true then te σ2 H3 fun y H4 => ∃ acc, H4 D = some (.lst acc) ∧ acc.length < sizeLine ∧ Pv (i + 1) (upd H4 D (.lst (acc ++ [y]))) else Pv (i + 1) H3) (hd : ∀ H, Pv xs.length H → Qd H) :
    ∃ W : Nat → Nat → Hp → Prop, (∃ m, W 0 m (upd H1 D (.lst []))) ∧ ∀ i m H, W i m H →
      (J.stop i H ∧ Qd H) ∨ (J.go i H ∧ ∃ Nx : Hp → Prop, (∀ H', Nx H' → ∃ m', m' < m ∧ W (i + 1) m' H') ∧ ∀ x H', J.yld i H x H' → g x (wipe σ vs) H' fun σ2 H2 => wipe σ2 vs = wipe σ vs ∧ tt σ2 H2 fun b H3 =>
        if b = true then te σ2 H3 fun y H4 => ∃ acc, H4 D = some (.lst acc) ∧ acc.length < sizeLine ∧ Nx (upd H4 D (.lst (acc ++ [y]))) else Nx H3) := by
  refine ⟨fun i m H => m = xs.length - i ∧ i ≤ xs.length ∧ Pv i H, ⟨xs.length, by simp, Nat.zero_le _, h0⟩, ?_⟩
  rintro i m H ⟨rfl, hi, p⟩
  have q := hl i H hi p i
  by_cases hlt : i < xs.length
  · have e : xs[i]? = some xs[i] := List.getElem?_eq_getElem hlt
    obtain ⟨q1, q2⟩ := q.1 _ e
    refine .inr ⟨q1, Pv (i + 1), fun H' p' => ⟨xs.length - (i + 1), by omega, rfl, hlt, p'⟩, fun x H' y => ?_⟩
    obtain ⟨e1, e2⟩ := q2 x H' y
    subst e1 e2
    exact hs i _ _ e p
  · have e : i = xs.length := by omega
    subst e
    exact .inl ⟨q.2 (Nat.le_refl _), hd _ p⟩
theorem fm_len {α β : Type} (f : α → Option β) : ∀ xs : List α, (xs.filterMap f).length ≤ xs.length := fun xs => List.length_filterMap_le f xs
theorem take_get {α β : Type} {f : α → Option β} {xs : List α} {i : Nat} {x : α} (e : xs[i]? = some x) : (xs.take (i + 1)).filterMap f = (xs.take i).filterMap f ++ (match f x with | some y => [y] | none => []) := by
  rw [List.take_add_one, e]
  simp only [Option.toList, List.filterMap_append, List.filterMap_cons, List.filterMap_nil]
  cases f x <;> rfl
/-- elements that change nothing: the list of the values -/
theorem lcF {J : It} {xs : List V} {i0 : Nat} {tt : TT} {te : TE} {σ : L2.St} {H1 : Hp} {D : Addr} {Qd : Hp → Prop} (f : V → Option V) (hD : H1 D = none) (S : ∀ H, Ext H1 H → SrcAt J xs H) (hn : xs.length ≤ sizeLine)
    (step : ∀ x ∈ xs, ∀ H, Ext H1 H → ∀ (R : V → Hp → Prop) (N : Hp → Prop), (∀ y, f x = some y → R y H) → (f x = none → N H) → tt ((wipe σ [i0]).set i0 (some x)) H (fun b H3 => if b = true then te ((wipe σ [i0]).set i0 (some x)) H3 R else N H3))
    (hd : Qd (upd H1 D (.lst (xs.filterMap f)))) :
    ∃ W : Nat → Nat → Hp → Prop, (∃ m, W 0 m (upd H1 D (.lst []))) ∧ ∀ i m H, W i m H →
      (J.stop i H ∧ Qd H) ∨ (J.go i H ∧ ∃ Nx : Hp → Prop, (∀ H', Nx H' → ∃ m', m' < m ∧ W (i + 1) m' H') ∧ ∀ x H', J.yld i H x H' → gName i0 x (wipe σ [i0]) H' fun σ2 H2 => wipe σ2 [i0] = wipe σ [i0] ∧ tt σ2 H2 fun b H3 =>
        if b = true then te σ2 H3 fun y H4 => ∃ acc, H4 D = some (.lst acc) ∧ acc.length < sizeLine ∧ Nx (upd H4 D (.lst (acc ++ [y]))) else Nx H3) := by
  refine lcS (fun i H => H = upd H1 D (.lst ((xs.take i).filterMap f))) (by simp) (fun i H _ e => by rw [e]; exact S _ (ext_new hD)) (fun i x H e p => ?_) (fun H e => by rw [e, List.take_length]; exact hd)
  subst p
  refine ⟨by simp [wipe], step x (List.mem_of_getElem? e) _ (ext_new hD) _ _ (fun y hy => ?_) (fun hy => ?_)⟩
  · refine ⟨_, upd_same, ?_, ?_⟩
    · refine Nat.lt_of_le_of_lt (fm_len f _) ?_
      have := (List.getElem?_eq_some_iff.mp e).1
      rw [List.length_take]
      omega
    · rw [upd_upd, take_get e, hy]
  · rw [take_get e, hy, List.append_nil]
theorem fl_len {α β : Type} {F : α → List β} {b : Nat} : ∀ {xs : List α}, (∀ x ∈ xs, (F x).length ≤ b) → (xs.flatMap F).length ≤ xs.length * b
  | [], _ => by simp
  | x :: r, h => by
    rw [List.flatMap_cons, List.length_append, List.length_cons, Nat.add_mul]
    have := h x List.mem_cons_self
    have := fl_len (F := F) (xs := r) fun y hy => h y (List.mem_cons_of_mem _ hy)
    omega
theorem wipe2 {σ : L2.St} {i0 i1 : Nat} {x y : Option V} (ne : i0 ≠ i1) : wipe ((wipe σ [i0, i1]).set i0 x) [i0, i1] = wipe σ [i0, i1] := by
  show ((((σ.set i1 none).set i0 none).set i0 x).set i1 none).set i0 none = (σ.set i1 none).set i0 none
  rw [List.set_set, List.set_comm (i := i0) (j := i1) _ _ ne, List.set_set, List.set_set]
/-- two sources; the elements change nothing -/
theorem lc2F {J : It} {xs : List V} {i0 i1 : Nat} {wi1 : TI} {tt1 : TT} {te : TE} {σ : L2.St} {H1 : Hp} {D : Addr} {Qd : Hp → Prop} {b : Nat} (ne : i0 ≠ i1) (ys : V → List V) (f : V → V → Option V) (hD : H1 D = none) (S : ∀ H, Ext H1 H → SrcAt J xs H)
    (hb : ∀ x ∈ xs, (ys x).length ≤ b) (hn : xs.length * b ≤ sizeLine)
    (src1 : ∀ x ∈ xs, ∀ H, Ext H1 H → ∀ R : It → Hp → Prop, (∀ J1, (∀ H', Ext H1 H' → SrcAt J1 (ys x) H') → R J1 H) → wi1 ((wipe σ [i0, i1]).set i0 (some x)) H R)
    (step : ∀ x ∈ xs, ∀ y ∈ ys x, ∀ H, Ext H1 H → ∀ (R : V → Hp → Prop) (N : Hp → Prop), (∀ z, f x y = some z → R z H) → (f x y = none → N H) →
      tt1 ((wipe ((wipe σ [i0, i1]).set i0 (some x)) [i1]).set i1 (some y)) H (fun b H3 => if b = true then te ((wipe ((wipe σ [i0, i1]).set i0 (some x)) [i1]).set i1 (some y)) H3 R else N H3))
    (hd : Qd (upd H1 D (.lst (xs.flatMap fun x => (ys x).filterMap (f x))))) :
    ∃ W : Nat → Nat → Hp → Prop, (∃ m, W 0 m (upd H1 D (.lst []))) ∧ ∀ i m H, W i m H →
      (J.stop i H ∧ Qd H) ∨ (J.go i H ∧ ∃ Nx : Hp → Prop, (∀ H', Nx H' → ∃ m', m' < m ∧ W (i + 1) m' H') ∧ ∀ x H', J.yld i H x H' → gName i0 x (wipe σ [i0, i1]) H' fun σ2 H2 => wipe σ2 [i0, i1] = wipe σ [i0, i1] ∧ tYes σ2 H2 fun b H3 =>
        if b = true then wi1 σ2 H3 fun J1 H4 => ∃ W1 : Nat → Nat → Hp → Prop, (∃ m, W1 0 m H4) ∧ ∀ j k H, W1 j k H →
          (J1.stop j H ∧ Nx H) ∨ (J1.go j H ∧ ∃ Nx1 : Hp → Prop, (∀ H', Nx1 H' → ∃ k', k' < k ∧ W1 (j + 1) k' H') ∧ ∀ x H', J1.yld j H x H' → gName i1 x (wipe σ2 [i1]) H' fun σ3 H5 => wipe σ3 [i1] = wipe σ2 [i1] ∧ tt1 σ3 H5 fun b H6 =>
            if b = true then te σ3 H6 fun y H7 => ∃ acc, H7 D = some (.lst acc) ∧ acc.length < sizeLine ∧ Nx1 (upd H7 D (.lst (acc ++ [y]))) else Nx1 H6)
        else Nx H3) := by
  refine ⟨fun i m H => m = xs.length - i ∧ i ≤ xs.length ∧ H = upd H1 D (.lst ((xs.take i).flatMap fun x => (ys x).filterMap (f x))), ⟨xs.length, by simp⟩, ?_⟩
  rintro i m H ⟨rfl, hi, rfl⟩
  have q := S _ (ext_new (o := .lst ((xs.take i).flatMap fun x => (ys x).filterMap (f x))) hD) i
  by_cases hlt : i < xs.length
  · have e : xs[i]? = some xs[i] := List.getElem?_eq_getElem hlt
    obtain ⟨q1, q2⟩ := q.1 _ e
    have hx : xs[i] ∈ xs := List.mem_of_getElem? e
    refine .inr ⟨q1, fun H => H = upd H1 D (.lst ((xs.take (i + 1)).flatMap fun x => (ys x).filterMap (f x))), fun H' p' => ⟨xs.length - (i + 1), by omega, rfl, hlt, p'⟩, fun x H' y => ?_⟩
    obtain ⟨e1, e2⟩ := q2 x H' y
    subst e1 e2
    refine ⟨wipe2 (y := none) ne, ?_⟩
    dsimp only [tYes]
    rw [if_pos rfl]
    refine src1 _ hx _ (ext_new hD) _ fun J1 S1 => ?_
    refine ⟨fun j k H => k = (ys xs[i]).length - j ∧ j ≤ (ys xs[i]).length ∧ H = upd H1 D (.lst (((xs.take i).flatMap fun x => (ys x).filterMap (f x)) ++ ((ys xs[i]).take j).filterMap (f xs[i]))), ⟨(ys xs[i]).length, by simp⟩, ?_⟩
    rintro j k H ⟨rfl, hj, rfl⟩
    have r := S1 _ (ext_new (o := .lst (((xs.take i).flatMap fun x => (ys x).filterMap (f x)) ++ ((ys xs[i]).take j).filterMap (f xs[i]))) hD) j
    by_cases hl2 : j < (ys xs[i]).length
    · have e' : (ys xs[i])[j]? = some (ys xs[i])[j] := List.getElem?_eq_getElem hl2
      obtain ⟨r1, r2⟩ := r.1 _ e'
      refine .inr ⟨r1, fun H => H = upd H1 D (.lst (((xs.take i).flatMap fun x => (ys x).filterMap (f x)) ++ ((ys xs[i]).take (j + 1)).filterMap (f xs[i]))), fun H' p' => ⟨(ys xs[i]).length - (j + 1), by omega, rfl, hl2, p'⟩, fun z H' y => ?_⟩
      obtain ⟨e1, e2⟩ := r2 z H' y
      subst e1 e2
      refine ⟨by show (((wipe ((wipe σ [i0, i1]).set i0 (some xs[i])) [i1]).set i1 (some (ys xs[i])[j])).set i1 none) = (((wipe σ [i0, i1]).set i0 (some xs[i])).set i1 none); rw [List.set_set]; show (((wipe σ [i0, i1]).set i0 (some xs[i])).set i1 none).set i1 none = _; rw [List.set_set], ?_⟩
      refine step _ hx _ (List.mem_of_getElem? e') _ (ext_new hD) _ _ (fun y hy => ?_) (fun hy => ?_)
      · refine ⟨_, upd_same, ?_, ?_⟩
        · rw [List.length_append]
          have l1 := fl_len (F := fun x => (ys x).filterMap (f x)) (b := b) (xs := xs.take i) fun x hx => Nat.le_trans (fm_len _ _) (hb x (List.mem_of_mem_take hx))
          have l2 : (((ys xs[i]).take j).filterMap (f xs[i])).length ≤ j := Nat.le_trans (fm_len _ _) (by rw [List.length_take]; omega)
          have l3 := hb _ hx
          have l4 : (i + 1) * b ≤ xs.length * b := Nat.mul_le_mul_right b hlt
          rw [List.length_take, Nat.min_eq_left hi] at l1
          rw [Nat.add_mul] at l4
          omega
        · rw [upd_upd, take_get e', hy, List.append_assoc]
      · rw [take_get e', hy, List.append_nil]
    · have e1 : j = (ys xs[i]).length := by omega
      subst e1
      refine .inl ⟨r.2 (Nat.le_refl _), ?_⟩
      have e2 : xs.take (i + 1) = xs.take i ++ [xs[i]] := by rw [List.take_add_one, e] <;> rfl
      simp only [e2, List.flatMap_append, List.flatMap_cons, List.flatMap_nil, List.append_nil, List.take_length]
  · have e : i = xs.length := by omega
    subst e
    rw [List.take_length]
    exact .inl ⟨by rw [List.take_length] at q; exact q.2 (Nat.le_refl _), hd⟩
end Bw

namespace Bw
open PySem PySem.Spec PyProof.Rows L2
/-! ### plain: sorted lists, what comes up twice -/
def insI (a : Int) : List Int → List Int
  | [] => [a]
  | b :: r => if a ≤ b then a :: b :: r else b :: insI a r
def srt : List Int → List Int
  | [] => []
  | a :: r => insI a (srt r)
theorem insI_perm (a : Int) : ∀ l, (insI a l).Perm (a :: l)
  | [] => .refl _
  | b :: r => by
    unfold insI
    split
    · exact .refl _
    · exact ((insI_perm a r).cons b).trans (.swap a b r)
theorem srt_perm : ∀ l, (srt l).Perm l
  | [] => .refl _
  | a :: r => (insI_perm a (srt r)).trans ((srt_perm r).cons a)
theorem insI_le (a : Int) : ∀ l : List Int, l.Pairwise (· ≤ ·) → (insI a l).Pairwise (· ≤ ·)
  | [], _ => by simp [insI]
  | b :: r, h => by
    unfold insI
    obtain ⟨h1, h2⟩ := List.pairwise_cons.mp h
    split
    · rename_i hab
      refine List.pairwise_cons.mpr ⟨fun c hc => ?_, h⟩
      rcases List.mem_cons.mp hc with rfl | hc
      · exact hab
      · exact Int.le_trans hab (h1 c hc)
    · rename_i hab
      refine List.pairwise_cons.mpr ⟨fun c hc => ?_, insI_le a r h2⟩
      rcases List.mem_cons.mp ((insI_perm a r).mem_iff.mp hc) with rfl | hc
      · omega
      · exact h1 c hc
theorem srt_le : ∀ l : List Int, (srt l).Pairwise (· ≤ ·)
  | [] => .nil
  | a :: r => insI_le a _ (srt_le r)
theorem srt_unique {l m : List Int} (p : l.Perm m) (h : l.Pairwise (· ≤ ·)) : l = srt m :=
  List.Perm.eq_of_pairwise (fun _ _ _ _ a b => Int.le_antisymm a b) h (srt_le m) (p.trans (srt_perm m).symm)
theorem srt_of_le {l : List Int} (h : l.Pairwise (· ≤ ·)) : srt l = l := (srt_unique (.refl l) h).symm
theorem srt_congr {l m : List Int} (p : l.Perm m) : srt l = srt m := srt_unique ((srt_perm l).trans p) (srt_le l)
theorem mem_srt {l : List Int} {x : Int} : x ∈ srt l ↔ x ∈ l := (srt_perm l).mem_iff
theorem srt_length (l : List Int) : (srt l).length = l.length := (srt_perm l).length_eq
theorem srt_nodup {l : List Int} (h : l.Nodup) : (srt l).Nodup := (srt_perm l).nodup_iff.mpr h
/-- the first of a sorted list that stands beside its like -/
def adj : List Int → Option Int
  | [] => none
  | a :: r => match r with
    | [] => none
    | b :: _ => if a = b then some a else adj r
/-- the least that comes up twice -/
def rep (l : List Int) : Option Int := adj (srt l)
/-! ### what a deed on lots ends in -/
inductive Out where
  | lot (n : Int) (ms : List Int) | meets (h : Int) | other | notdiv (m : Int) | bad (nm : Str) (v : Int)
def onceOut (n : Int) (rs : List Int) : Out := match rep rs with
  | some h => .meets h
  | none => .lot n (srt rs)
def mulOut (n : Int) (ms : List Int) (f : Int) : Out := onceOut n (ms.map fun m => (m * f) % n)
def addOut (n : Int) (ms : List Int) (n' : Int) (ms' : List Int) : Out := if n = n' then onceOut n (ms.flatMap fun a => ms'.map fun b => (a + b) % n) else .other
def modOut (n : Int) (ms : List Int) (m : Int) : Out := if m < 1 ∨ n % m ≠ 0 then .notdiv m else onceOut m (ms.map fun a => a % m)
def copies (n : Int) (ms : List Int) (t : Int) : List Int := (List.range t.toNat).flatMap fun lap : Nat => ms.map fun a : Int => a + (lap : Int) * n
def powOut (n : Int) (ms : List Int) (t : Int) : Out := if t < 1 then .bad "times" t else if 360 < n * t then .bad "hours" (n * t) else .lot (n * t) (copies n ms t)
/-! ### a lot in the heap -/
structure LotOk (n : Int) (ms : List Int) : Prop where
  n1 : 1 ≤ n
  n2 : n ≤ 360
  asc : ms.Pairwise (· < ·)
  rng : ∀ m ∈ ms, 0 ≤ m ∧ m < n
def lotFs (n : Int) (lm : Addr) : List (Str × V) := [("hours", .int n), ("_members", .ref lm)]
def LotAt (K : PySem.W.Frag) (H : Hp) (a : Addr) (n : Int) (ms : List Int) : Prop := LotOk n ms ∧ ∃ dx lm, H a = some (.ins (He.ga K "Lot") dx (lotFs n lm)) ∧ H lm = some (.lst (ms.map V.int))
theorem LotAt.ext {K : PySem.W.Frag} {H H' : Hp} {a : Addr} {n : Int} {ms : List Int} (h : LotAt K H a n ms) (x : Ext H H') : LotAt K H' a n ms := by
  obtain ⟨o, dx, lm, h1, h2⟩ := h
  exact ⟨o, dx, lm, x _ _ h1, x _ _ h2⟩
theorem asc_len : ∀ (ms : List Int) (lo n : Int), ms.Pairwise (· < ·) → (∀ m ∈ ms, lo ≤ m ∧ m < n) → ms.length ≤ (n - lo).toNat
  | [], _, _, _, _ => Nat.zero_le _
  | m :: r, lo, n, h, hr => by
    obtain ⟨h1, h2⟩ := List.pairwise_cons.mp h
    have q := hr m List.mem_cons_self
    have := asc_len r (m + 1) n h2 fun x hx => ⟨by have := h1 x hx; omega, (hr x (List.mem_cons_of_mem _ hx)).2⟩
    rw [List.length_cons]
    omega
theorem LotOk.len {n : Int} {ms : List Int} (h : LotOk n ms) : ms.length ≤ 360 := by
  have := asc_len ms 0 n h.asc h.rng
  have := h.n2
  omega
/-- how a deed ends, as a call's end: a lot, or an error with its dict -/
def Done (K : PySem.W.Frag) (H : Hp) (Q : VK) (E : XK) : Out → Prop
  | .lot n ms => ∀ H' a, Ext H H' → LotAt K H' a n ms → Q (.ref a) H'
  | .meets h => ∀ H' d, Ext H H' → H' d = some (.xd [("hour", .int h)]) → E (.ref (He.ga K "Meets")) (some d) H'
  | .other => ∀ H', Ext H H' → E (.ref (He.ga K "OtherHours")) none H'
  | .notdiv m => ∀ H' d, Ext H H' → H' d = some (.xd [("number", .int m)]) → E (.ref (He.ga K "NotADivisor")) (some d) H'
  | .bad nm v => ∀ H' d, Ext H H' → H' d = some (.xd [("value", .int v), ("name", .str nm)]) → E (.ref (He.ga K "BadNumber")) (some d) H'
theorem Done.ext {K : PySem.W.Frag} {H H1 : Hp} {Q : VK} {E : XK} {o : Out} (h : Done K H Q E o) (x : Ext H H1) : Done K H1 Q E o := by
  cases o with
  | lot n ms => exact fun H' a y => h H' a (x.trans y)
  | meets m => exact fun H' a y => h H' a (x.trans y)
  | other => exact fun H' y => h H' (x.trans y)
  | notdiv m => exact fun H' a y => h H' a (x.trans y)
  | bad nm v => exact fun H' a y => h H' a (x.trans y)
/-! ### promises -/
def spF (_ : PySem.W.Frag) : Sp := fun _ _ _ _ => False
def sp_hours_checked (K : PySem.W.Frag) : Sp := fun vs H Q E => ∃ n m : Int, vs = [.int n, .int m] ∧ if 1 ≤ n ∧ n ≤ m then Q .non H else Done K H Q E (.bad "hours" n)
def sp_rings_checked (K : PySem.W.Frag) : Sp := fun vs H Q E => ∃ (a b : Addr) (n n' : Int) (ms ms' : List Int), vs = [.ref a, .ref b] ∧ LotAt K H a n ms ∧ LotAt K H b n' ms' ∧ if n = n' then Q .non H else Done K H Q E .other
def sp_each_once (K : PySem.W.Frag) : Sp := fun vs H Q E => ∃ (a : Addr) (rs : List Int), vs = [.ref a] ∧ SqL K H a (rs.map V.int) ∧ rs.length ≤ 200000 ∧ match rep rs with
  | some h => Done K H Q E (.meets h)
  | none => ∀ H' p, Ext H H' → H' p = some (.lst ((srt rs).map V.int)) → Q (.ref p) H'
def sp_Lot_init (K : PySem.W.Frag) : Sp := fun vs H Q E => ∃ (a dx l : Addr) (n : Int) (ms : List Int), vs = [.ref a, .int n, .ref l] ∧ H a = some (.ins (He.ga K "Lot") dx []) ∧ SqL K H l (ms.map V.int) ∧ 1 ≤ n ∧ n ≤ 360 ∧ ms.length ≤ 4000 ∧ (ms.map fun m => m % n).Nodup ∧
  ∀ H' lm, (∀ b o, b ≠ a → H b = some o → H' b = some o) → H' a = some (.ins (He.ga K "Lot") dx (lotFs n lm)) → H' lm = some (.lst ((srt (ms.map fun m => m % n)).map V.int)) → Q .non H'
def sp_Lot_members (K : PySem.W.Frag) : Sp := fun vs H Q E => ∃ (a : Addr) (n : Int) (ms : List Int), vs = [.ref a] ∧ LotAt K H a n ms ∧ ∀ H' p, Ext H H' → H' p = some (.lst (ms.map V.int)) → Q (.ref p) H'
def sp_Lot_len (K : PySem.W.Frag) : Sp := fun vs H Q E => ∃ (a : Addr) (n : Int) (ms : List Int), vs = [.ref a] ∧ LotAt K H a n ms ∧ Q (.int (ms.length : Nat)) H
def sp_Lot_mul (K : PySem.W.Frag) : Sp := fun vs H Q E => ∃ (a : Addr) (n f : Int) (ms : List Int), vs = [.ref a, .int f] ∧ LotAt K H a n ms ∧ f.natAbs < 2 ^ 400 ∧ Done K H Q E (mulOut n ms f)
def sp_Lot_rmul (K : PySem.W.Frag) : Sp := sp_Lot_mul K
def sp_Lot_add (K : PySem.W.Frag) : Sp := fun vs H Q E => ∃ (a b : Addr) (n n' : Int) (ms ms' : List Int), vs = [.ref a, .ref b] ∧ LotAt K H a n ms ∧ LotAt K H b n' ms' ∧ Done K H Q E (addOut n ms n' ms')
def sp_Lot_mod (K : PySem.W.Frag) : Sp := fun vs H Q E => ∃ (a : Addr) (n m : Int) (ms : List Int), vs = [.ref a, .int m] ∧ LotAt K H a n ms ∧ Done K H Q E (modOut n ms m)
def sp_Lot_pow (K : PySem.W.Frag) : Sp := fun vs H Q E => ∃ (a : Addr) (n t : Int) (ms : List Int), vs = [.ref a, .int t] ∧ LotAt K H a n ms ∧ t ≤ 1000 ∧ Done K H Q E (powOut n ms t)
end Bw
namespace Bw
open PySem PySem.Spec PyProof.Rows L2
/-! ### what the written part says of classes, for the readings -/
def raisedC : List Str := ["Meets", "OtherHours", "NotADivisor", "BadNumber"]
def caughtC : List Str := ["Meets", "OtherHours", "NotADivisor", "BadNumber", "WatchError"]
def askedC : List Str := ["Meets", "OtherHours", "NotADivisor", "BadNumber", "RepeatedHour"]
def exmAll (K : PySem.W.Frag) : Bool := raisedC.all fun x => caughtC.all fun y => decide (PySem.W.exmOne K (.ref (He.ga K x)) (.ref (He.ga K y)) = some (decide (x = y) || decide (y = "WatchError")))
def kitAll (K : PySem.W.Frag) : Bool := raisedC.all fun x => excCB K (He.ga K x) && (decide (PySem.W.kitOne K (.ref (He.ga K x)) (.type "ValueError") = some true) && askedC.all fun y => decide (PySem.W.kitOne K (.ref (He.ga K x)) (.ref (He.ga K y)) = some (decide (x = y))))
def insAll (K : PySem.W.Frag) (C : Str) : Bool := (He.Fa.cls C).ok K && (He.eqO (PySem.W.findIn K (.ref (He.ga K C)) "__class__") (some (some (.builtin "object.__class__"))) && (He.eqO (PySem.W.specialIn K (.builtin "object.__class__") "__get__") (some (some (.builtin "getset_descriptor.__get__"))) &&
  (decide (PySem.W.takesIn K (.builtin "object.__class__") = some true) && decide (PySem.W.mroIn K (He.ga K C) (.type "object") = some true))))
theorem insAll_ok {K : PySem.W.Frag} {C : Str} {H : Hp} {a dx : Addr} {fs : List (Str × V)} (h : insAll K C = true) (e : H a = some (.ins (He.ga K C) dx fs)) : TyX K H (.ref a) (.ref (He.ga K C)) := by
  obtain ⟨h1, h⟩ := He.ba h
  obtain ⟨h2, h⟩ := He.ba h
  obtain ⟨h3, h⟩ := He.ba h
  obtain ⟨h4, h5⟩ := He.ba h
  exact .base (.ins e (He.cls_ok h1) (He.eqO_ok h2) (He.eqO_ok h3) (of_decide_eq_true h4) (of_decide_eq_true h5))
structure KF (K : PySem.W.Frag) : Prop where
  exm : exmAll K = true
  kit : kitAll K = true
  lot : insAll K "Lot" = true
theorem KF.ex {K : PySem.W.Frag} (F : KF K) {x y : Str} (hx : x ∈ raisedC) (hy : y ∈ caughtC) : PySem.W.exmOne K (.ref (He.ga K x)) (.ref (He.ga K y)) = some (decide (x = y) || decide (y = "WatchError")) :=
  of_decide_eq_true (List.all_eq_true.mp (List.all_eq_true.mp F.exm x hx) y hy)
theorem KF.kc {K : PySem.W.Frag} (F : KF K) {x : Str} (hx : x ∈ raisedC) : excCB K (He.ga K x) = true := (He.ba (List.all_eq_true.mp F.kit x hx)).1
theorem KF.kv {K : PySem.W.Frag} (F : KF K) {x : Str} (hx : x ∈ raisedC) : PySem.W.kitOne K (.ref (He.ga K x)) (.type "ValueError") = some true := of_decide_eq_true (He.ba (He.ba (List.all_eq_true.mp F.kit x hx)).2).1
theorem KF.ko {K : PySem.W.Frag} (F : KF K) {x y : Str} (hx : x ∈ raisedC) (hy : y ∈ askedC) : PySem.W.kitOne K (.ref (He.ga K x)) (.ref (He.ga K y)) = some (decide (x = y)) :=
  of_decide_eq_true (List.all_eq_true.mp (He.ba (He.ba (List.all_eq_true.mp F.kit x hx)).2).2 y hy)
end Bw

namespace Bw
open PySem PySem.Spec PyProof.Rows L2
/-! ### plain data in the heap, by its depth -/
mutual
inductive Dn (H : Hp) : Nat → V → PyData → Prop
  | non (d : Nat) : Dn H d .non .none
  | bl (d : Nat) (b : Bool) : Dn H d (.bl b) (.bool b)
  | int (d : Nat) (i : Int) : Dn H d (.int i) (.int i)
  | str (d : Nat) (x : Str) : Dn H d (.str x) (.str x)
  | lst {d : Nat} {a : Addr} {xs : List V} {ds : List PyData} (h : H a = some (.lst xs)) (l : xs.length ≤ 200000) (r : DnAll H d xs ds) : Dn H (d + 1) (.ref a) (.list ds)
  | tup {d : Nat} {a : Addr} {xs : List V} {ds : List PyData} (h : H a = some (.tup xs)) (l : xs.length ≤ 200000) (r : DnAll H d xs ds) : Dn H (d + 1) (.ref a) (.tuple ds)
inductive DnAll (H : Hp) : Nat → List V → List PyData → Prop
  | nil (d : Nat) : DnAll H d [] []
  | cons {d : Nat} {v : V} {vs : List V} {p : PyData} {ps : List PyData} (h : Dn H d v p) (r : DnAll H d vs ps) : DnAll H d (v :: vs) (p :: ps)
end
mutual
theorem Dn.ext {H H' : Hp} (x : Ext H H') : ∀ {d : Nat} {v : V} {p : PyData}, Dn H d v p → Dn H' d v p
  | _, _, _, .non d => .non d
  | _, _, _, .bl d b => .bl d b
  | _, _, _, .int d i => .int d i
  | _, _, _, .str d z => .str d z
  | _, _, _, .lst h l r => .lst (x _ _ h) l (DnAll.ext x r)
  | _, _, _, .tup h l r => .tup (x _ _ h) l (DnAll.ext x r)
theorem DnAll.ext {H H' : Hp} (x : Ext H H') : ∀ {d : Nat} {vs : List V} {ps : List PyData}, DnAll H d vs ps → DnAll H' d vs ps
  | _, _, _, .nil d => .nil d
  | _, _, _, .cons h r => .cons (Dn.ext x h) (DnAll.ext x r)
end
theorem dnInts (H : Hp) (d : Nat) : ∀ ns : List Int, DnAll H d (ns.map V.int) (ns.map PyData.int)
  | [] => .nil d
  | n :: r => .cons (.int d n) (dnInts H d r)
/-! ### deeds -/
inductive Deed where
  | mul (n : Int) (ms : List Int) (f : Int) | rmul (n : Int) (ms : List Int) (f : Int) | add (n : Int) (ms : List Int) (n' : Int) (ms' : List Int) | md (n : Int) (ms : List Int) (m : Int) | pw (n : Int) (ms : List Int) (t : Int)
def Deed.out : Deed → Out
  | .mul n ms f => mulOut n ms f
  | .rmul n ms f => mulOut n ms f
  | .add n ms n' ms' => addOut n ms n' ms'
  | .md n ms m => modOut n ms m
  | .pw n ms t => powOut n ms t
/-- the deed's two sides and its number -/
def Deed.at_ (K : PySem.W.Frag) (H : Hp) (x y : V) (w : Int) : Deed → Prop
  | .mul n ms f => w = 0 ∧ f.natAbs < 2 ^ 400 ∧ ∃ a, x = .ref a ∧ LotAt K H a n ms ∧ y = .int f
  | .rmul n ms f => w = 0 ∧ f.natAbs < 2 ^ 400 ∧ ∃ a, y = .ref a ∧ LotAt K H a n ms ∧ x = .int f
  | .add n ms n' ms' => w = 1 ∧ ∃ a b, x = .ref a ∧ LotAt K H a n ms ∧ y = .ref b ∧ LotAt K H b n' ms'
  | .md n ms m => w = 2 ∧ ∃ a, x = .ref a ∧ LotAt K H a n ms ∧ y = .int m
  | .pw n ms t => w = 3 ∧ 0 ≤ t ∧ t ≤ 64 ∧ ∃ a, x = .ref a ∧ LotAt K H a n ms ∧ y = .int t
theorem Deed.ext {K : PySem.W.Frag} {H H' : Hp} {x y : V} {w : Int} {d : Deed} (h : d.at_ K H x y w) (e : Ext H H') : d.at_ K H' x y w := by
  cases d with
  | mul n ms f => obtain ⟨h1, h2, a, h3, h4, h5⟩ := h; exact ⟨h1, h2, a, h3, h4.ext e, h5⟩
  | rmul n ms f => obtain ⟨h1, h2, a, h3, h4, h5⟩ := h; exact ⟨h1, h2, a, h3, h4.ext e, h5⟩
  | add n ms n' ms' => obtain ⟨h1, a, b, h3, h4, h5, h6⟩ := h; exact ⟨h1, a, b, h3, h4.ext e, h5, h6.ext e⟩
  | md n ms m => obtain ⟨h1, a, h3, h4, h5⟩ := h; exact ⟨h1, a, h3, h4.ext e, h5⟩
  | pw n ms t => obtain ⟨h1, h2, h2', a, h3, h4, h5⟩ := h; exact ⟨h1, h2, h2', a, h3, h4.ext e, h5⟩
/-- what is due, as the law writes it -/
def dueD : Out → PyData
  | .lot _ ms => .list (ms.map PyData.int)
  | .meets h => .tuple [.str "Meets", .int h]
  | .other => .tuple [.str "OtherHours"]
  | .notdiv m => .tuple [.str "NotADivisor", .int m]
  | .bad nm v => .tuple [.str "BadNumber", .str nm, .int v]
def ToldAt (K : PySem.W.Frag) (H : Hp) (v : V) : Out → Prop
  | .lot n ms => ∃ a, v = .ref a ∧ LotAt K H a n ms
  | o => Dn H 1 v (dueD o)
def kindsOf : Out → List Bool
  | .lot _ _ => []
  | .meets _ => [true, true, false, false, false, false]
  | .other => [true, false, true, false, false, false]
  | .notdiv _ => [true, false, false, true, false, false]
  | .bad _ _ => [true, false, false, false, true, false]
/-! ### promises of the law's own defs -/
def sp_l_cell (K : PySem.W.Frag) : Sp := fun vs H Q E => ∃ (a : Addr) (ns : List Int) (k : Nat), vs = [.ref a, .int (k : Nat)] ∧ SqL K H a (ns.map V.int) ∧ ∀ r : Int, 0 ≤ r → Q (.int r) H
def sp_l_draws (K : PySem.W.Frag) : Sp := fun vs H Q E => ∃ (c s : Int) (a : Addr) (ms : List Int), vs = [.int c, .int s, .ref a] ∧ 0 ≤ c ∧ 0 ≤ s ∧ s ≤ 1000000 ∧ SqL K H a (ms.map V.int) ∧ ms.length ≤ 1000 ∧ (∀ m ∈ ms, 1 ≤ m ∧ m < 2 ^ 64) ∧
  ∀ H' p (ws : List Int), Ext H H' → H p = none → H' p = some (.lst (ws.map V.int)) → ws.length = ms.length → (∀ (k : Nat) (w m : Int), ws[k]? = some w → ms[k]? = some m → 0 ≤ w ∧ w < m) → Q (.ref p) H'
def sp_l_is_int (K : PySem.W.Frag) : Sp := fun vs H Q E => ∃ i : Int, vs = [.int i] ∧ Q (.bl true) H
def sp_l_same (d : Nat) (K : PySem.W.Frag) : Sp := fun vs H Q E => ∃ (x y : V) (p : PyData), vs = [x, y] ∧ Dn H d x p ∧ Dn H d y p ∧ Q (.bl true) H
def sp_l_digits (K : PySem.W.Frag) : Sp := fun vs H Q E => ∃ c s : Int, vs = [.int c, .int s] ∧ 0 ≤ c ∧ 0 ≤ s ∧ s ≤ 1000000 ∧ ∀ H' (r : Int), Ext H H' → 0 ≤ r → r < 10 ^ 60 → Q (.int r) H'
def Rising (n : Int) (ms : List Int) : Prop := ms.Pairwise (· < ·) ∧ ∀ m ∈ ms, 0 ≤ m ∧ m < n
def sp_l_bits (K : PySem.W.Frag) : Sp := fun vs H Q E => ∃ n b : Int, vs = [.int n, .int b] ∧ 0 ≤ n ∧ n ≤ 10000 ∧ ∀ H' p (ms : List Int), Ext H H' → H p = none → H' p = some (.lst (ms.map V.int)) → Rising n ms → Q (.ref p) H'
def sp_l_subset (K : PySem.W.Frag) : Sp := fun vs H Q E => ∃ c s n : Int, vs = [.int c, .int s, .int n] ∧ 0 ≤ c ∧ 0 ≤ s ∧ s ≤ 1000000 ∧ 0 ≤ n ∧ n ≤ 1000 ∧ ∀ H' p (ms : List Int), Ext H H' → H p = none → H' p = some (.lst (ms.map V.int)) → Rising n ms → Q (.ref p) H'
def sp_l_drawn_lot (K : PySem.W.Frag) : Sp := fun vs H Q E => ∃ c s n w : Int, vs = [.int c, .int s, .int n, .int w] ∧ 0 ≤ c ∧ 0 ≤ s ∧ s ≤ 1000000 ∧ 0 ≤ n ∧ n ≤ 1000 ∧ ∀ H' p (ms : List Int), Ext H H' → H p = none → H' p = some (.lst (ms.map V.int)) → Rising n ms → Q (.ref p) H'
def sp_l_divisors (K : PySem.W.Frag) : Sp := fun vs H Q E => ∃ n : Int, vs = [.int n] ∧ 1 ≤ n ∧ n ≤ 100000 ∧ ∀ H' p (ds : List Int), Ext H H' → H p = none → H' p = some (.lst (ds.map V.int)) → ds ≠ [] → (∀ d ∈ ds, 1 ≤ d ∧ d ≤ n ∧ n % d = 0) → Q (.ref p) H'
def sp_l_numbers (K : PySem.W.Frag) : Sp := fun vs H Q E => ∃ (a : Addr) (ns : List Int) (n : Int), vs = [.ref a, .int n] ∧ SqL K H a (ns.map V.int) ∧ 1 ≤ n ∧ n ≤ 361 ∧
  ∀ H' p (f g t : Int), Ext H H' → H' p = some (.tup [.int f, .int g, .int t]) → f.natAbs < 2 ^ 400 → 0 ≤ t → t ≤ 64 → Q (.ref p) H'
def sp_l_copies (K : PySem.W.Frag) : Sp := fun vs H Q E => ∃ (a : Addr) (n t : Int) (ms : List Int), vs = [.ref a, .int t] ∧ LotAt K H a n ms ∧ 0 ≤ t ∧ t ≤ 64 ∧ Done K H Q E (powOut n ms t)
def sp_l_copies_to_21 (K : PySem.W.Frag) : Sp := fun vs H Q E => ∃ (a : Addr) (n t : Int) (ms : List Int), vs = [.ref a, .int t] ∧ LotAt K H a n ms ∧ 0 ≤ t ∧ t ≤ 21 ∧ Done K H Q E (powOut n ms t)
def sp_l_copies_to_43 (K : PySem.W.Frag) : Sp := fun vs H Q E => ∃ (a : Addr) (n t : Int) (ms : List Int), vs = [.ref a, .int t] ∧ LotAt K H a n ms ∧ 22 ≤ t ∧ t ≤ 43 ∧ Done K H Q E (powOut n ms t)
def sp_l_copies_to_64 (K : PySem.W.Frag) : Sp := fun vs H Q E => ∃ (a : Addr) (n t : Int) (ms : List Int), vs = [.ref a, .int t] ∧ LotAt K H a n ms ∧ 44 ≤ t ∧ t ≤ 64 ∧ Done K H Q E (powOut n ms t)
def sp_l_done (K : PySem.W.Frag) : Sp := fun vs H Q E => ∃ (x y : V) (w : Int) (d : Deed), vs = [x, y, .int w] ∧ d.at_ K H x y w ∧ Done K H Q E d.out
def sp_l_told (K : PySem.W.Frag) : Sp := fun vs H Q E => ∃ (x y : V) (w : Int) (d : Deed), vs = [x, y, .int w] ∧ d.at_ K H x y w ∧ ∀ H' v, Ext H H' → ToldAt K H' v d.out → Q v H'
def sp_l_kinds (K : PySem.W.Frag) : Sp := fun vs H Q E => ∃ (x y : V) (w : Int) (d : Deed), vs = [x, y, .int w] ∧ d.at_ K H x y w ∧ ∀ H' p, Ext H H' → H' p = some (.lst ((kindsOf d.out).map V.bl)) → Q (.ref p) H'
def sp_l_is_lot (K : PySem.W.Frag) : Sp := fun vs H Q E => ∃ (a l : Addr) (n : Int) (ms : List Int), vs = [.ref a, .int n, .ref l] ∧ LotAt K H a n ms ∧ H l = some (.lst (ms.map V.int)) ∧ ∀ H', Ext H H' → Q (.bl true) H'
def sp_l_agrees (K : PySem.W.Frag) : Sp := fun vs H Q E => ∃ (x y u : V) (w n : Int) (d : Deed), vs = [x, y, .int w, .int n, u] ∧ d.at_ K H x y w ∧ Dn H 1 u (dueD d.out) ∧ (∀ n' ms, d.out = .lot n' ms → n = n') ∧ ∀ H', Ext H H' → Q (.bl true) H'
def sp_l_once (K : PySem.W.Frag) : Sp := fun vs H Q E => ∃ (a : Addr) (n : Int) (rs : List Int), vs = [.ref a, .int n] ∧ H a = some (.lst (rs.map V.int)) ∧ 0 ≤ n ∧ n ≤ 1000 ∧ (∀ r ∈ rs, 0 ≤ r ∧ r < n) ∧ ∀ H' v, Ext H H' → Dn H' 1 v (dueD (onceOut n rs)) → Q v H'
def sp_l_sums (K : PySem.W.Frag) : Sp := fun vs H Q E => ∃ (a b : Addr) (n r : Int) (ms ms' : List Int), vs = [.ref a, .ref b, .int n, .int r] ∧ H a = some (.lst (ms.map V.int)) ∧ H b = some (.lst (ms'.map V.int)) ∧ LotOk n ms ∧ LotOk r ms' ∧ ∀ H' v, Ext H H' → Dn H' 1 v (dueD (addOut n ms r ms')) → Q v H'
def sp_l_products (K : PySem.W.Frag) : Sp := fun vs H Q E => ∃ (a l : Addr) (n f : Int) (ms : List Int), vs = [.ref a, .ref l, .int n, .int f] ∧ LotAt K H a n ms ∧ H l = some (.lst (ms.map V.int)) ∧ f.natAbs < 2 ^ 400 ∧ ∀ H', Ext H H' → Q (.bl true) H'
def sp_l_residues (K : PySem.W.Frag) : Sp := fun vs H Q E => ∃ (a l : Addr) (n m : Int) (ms : List Int), vs = [.ref a, .ref l, .int n, .int m] ∧ LotAt K H a n ms ∧ H l = some (.lst (ms.map V.int)) ∧ ∀ H', Ext H H' → Q (.bl true) H'
def sp_l_copied (K : PySem.W.Frag) : Sp := fun vs H Q E => ∃ (a l : Addr) (n t : Int) (ms : List Int), vs = [.ref a, .ref l, .int n, .int t] ∧ LotAt K H a n ms ∧ H l = some (.lst (ms.map V.int)) ∧ 0 ≤ t ∧ t ≤ 64 ∧ ∀ H', Ext H H' → Q (.bl true) H'
def sp_law (K : PySem.W.Frag) : Sp := fun vs H Q E => ∃ (a : Addr) (ns : List Int), vs = [.ref a] ∧ SqL K H a (ns.map V.int) ∧ ∀ H', Q (.bl true) H'
theorem lot_h (n : Int) (lm : Addr) : (lotFs n lm).lookup ("hours" : Str) = some (V.int n) := rfl
theorem lot_m (n : Int) (lm : Addr) : (lotFs n lm).lookup ("_members" : Str) = some (V.ref lm) := rfl
/-! ### lists of ints -/
def fI (g : Int → Option Int) : V → Option V
  | .int i => (g i).map V.int
  | _ => none
theorem fm_fI (g : Int → Option Int) : ∀ ns : List Int, (ns.map V.int).filterMap (fI g) = (ns.filterMap g).map V.int
  | [] => rfl
  | n :: r => by
    rw [List.map_cons, List.filterMap_cons, List.filterMap_cons, fm_fI g r]
    have e : fI g (.int n) = (g n).map V.int := rfl
    rw [e]
    cases g n <;> rfl
theorem fm_some {α β : Type} (g : α → β) : ∀ ns : List α, ns.filterMap (fun i => some (g i)) = ns.map g := fun ns => List.filterMap_eq_map ▸ rfl
theorem mem_mapI {ns : List Int} {x : V} (h : x ∈ ns.map V.int) : ∃ i ∈ ns, x = .int i := by
  obtain ⟨i, hi, e⟩ := List.mem_map.mp h
  exact ⟨i, hi, e.symm⟩
theorem adj_some : ∀ (l : List Int) (i : Nat) (x : Int), (∀ j, j < i → l[j]? ≠ l[j + 1]?) → l[i]? = some x → l[i + 1]? = some x → adj l = some x
  | [], _, _, _, h, _ => by cases h
  | [a], i, x, _, _, h => by cases i <;> cases h
  | a :: b :: r, 0, x, _, h1, h2 => by
    cases h1
    cases h2
    show (if a = a then some a else adj (a :: r)) = some a
    rw [if_pos rfl]
  | a :: b :: r, i + 1, x, h, h1, h2 => by
    unfold adj
    have : a ≠ b := fun e => h 0 (Nat.succ_pos _) (by rw [e] <;> rfl)
    dsimp only
    rw [if_neg this]
    exact adj_some (b :: r) i x (fun j hj => h (j + 1) (Nat.succ_lt_succ hj)) h1 h2
theorem adj_none : ∀ l : List Int, (∀ j, j + 1 < l.length → l[j]? ≠ l[j + 1]?) → adj l = none
  | [], _ => rfl
  | [a], _ => rfl
  | a :: b :: r, h => by
    unfold adj
    have : a ≠ b := fun e => h 0 (by simp) (by rw [e] <;> rfl)
    dsimp only
    rw [if_neg this]
    exact adj_none (b :: r) fun j hj => h (j + 1) (Nat.succ_lt_succ hj)
theorem atI_nat {α : Type} {xs : List α} {i : Int} {k : Nat} {x : α} (e : i = k) (h : xs[k]? = some x) : atI xs i = some x := by
  have hk : k < xs.length := (List.getElem?_eq_some_iff.mp h).1
  unfold atI ixN
  rw [e, if_pos (by omega), if_pos (by omega)]
  exact h
end Bw
namespace Bw
open PySem PySem.Spec PyProof.Rows L2
theorem mod_id {n : Int} {ms : List Int} (h : ∀ m ∈ ms, 0 ≤ m ∧ m < n) : ms.map (fun m => m % n) = ms := by
  have : ms.map (fun m => m % n) = ms.map id := List.map_congr_left fun m hm => Int.emod_eq_of_lt (h m hm).1 (h m hm).2
  rw [this, List.map_id]
theorem lt_nodup {l : List Int} (h : l.Pairwise (· < ·)) : l.Nodup := h.imp fun h => Int.ne_of_lt h
theorem lt_le {l : List Int} (h : l.Pairwise (· < ·)) : l.Pairwise (· ≤ ·) := h.imp fun h => Int.le_of_lt h
theorem le_lt : ∀ {l : List Int}, l.Pairwise (· ≤ ·) → adj l = none → l.Pairwise (· < ·)
  | [], _, _ => .nil
  | [a], _, _ => by simp
  | a :: b :: r, h, e => by
    have e : (if a = b then some a else adj (b :: r)) = none := e
    by_cases q : a = b
    · rw [if_pos q] at e; cases e
    · rw [if_neg q] at e
      obtain ⟨h1, h2⟩ := List.pairwise_cons.mp h
      have ih := le_lt h2 e
      refine List.pairwise_cons.mpr ⟨fun c hc => ?_, ih⟩
      have hb := h1 b List.mem_cons_self
      rcases List.mem_cons.mp hc with rfl | hc
      · omega
      · have := (List.pairwise_cons.mp ih).1 c hc
        omega
/-- residues that differ make a lot -/
theorem once_ok {n : Int} {rs : List Int} (h1 : 1 ≤ n) (h2 : n ≤ 360) (hr : ∀ r ∈ rs, 0 ≤ r ∧ r < n) (e : rep rs = none) : LotOk n (srt rs) :=
  ⟨h1, h2, le_lt (srt_le rs) e, fun m hm => hr m (mem_srt.mp hm)⟩
theorem emod_rng {n : Int} (h : 1 ≤ n) (a : Int) : 0 ≤ a % n ∧ a % n < n := ⟨Int.emod_nonneg _ (by omega), Int.emod_lt_of_pos _ (by omega)⟩
theorem fmod_pos {n : Int} (h : 1 ≤ n) (a : Int) : a.fmod n = a % n := Int.fmod_eq_emod_of_nonneg a (by omega)
end Bw
namespace Bw
open PySem PySem.Spec PyProof.Rows L2
theorem le_nodup_lt {l : List Int} (h : l.Pairwise (· ≤ ·)) (n : l.Nodup) : l.Pairwise (· < ·) :=
  List.Pairwise.imp (fun {a b} (p : a ≤ b ∧ a ≠ b) => by omega) (h.and n)
theorem rep_none_nodup {rs : List Int} (e : rep rs = none) : rs.Nodup := (srt_perm rs).nodup_iff.mp (lt_nodup (le_lt (srt_le rs) e))
theorem adj_none_of_lt : ∀ {l : List Int}, l.Pairwise (· < ·) → adj l = none
  | [], _ => rfl
  | [a], _ => rfl
  | a :: b :: r, h => by
    obtain ⟨h1, h2⟩ := List.pairwise_cons.mp h
    show (if a = b then some a else adj (b :: r)) = none
    rw [if_neg (Int.ne_of_lt (h1 b List.mem_cons_self)), adj_none_of_lt h2]
theorem rep_none_of_nodup {rs : List Int} (n : rs.Nodup) : rep rs = none := adj_none_of_lt (le_nodup_lt (srt_le rs) (srt_nodup n))
/-- Lot(n, members): a new one -/
theorem made_lot {K : PySem.W.Frag} {H1 : Hp} {Qx : Addr → Hp → Prop} {E : XK} {l : Addr} {n : Int} {ms : List Int} (hl : SqL K H1 l (ms.map V.int)) (n1 : 1 ≤ n) (n2 : n ≤ 360) (hlen : ms.length ≤ 4000) (hnd : (ms.map fun m => m % n).Nodup)
    (hQ : ∀ H' a, Ext H1 H' → LotAt K H' a n (srt (ms.map fun m => m % n)) → Qx a H') :
    ∀ x dx, H1 x = none → H1 dx = none → dx ≠ x → sp_Lot_init K [.ref x, .int n, .ref l] (upd (upd H1 dx (.own x)) x (.ins (He.ga K "Lot") dx [])) (fun v H2 => v = .non ∧ Qx x H2) E := by
  intro x dx hx hdx hne
  have hx' : upd H1 dx (.own x) x = none := by rw [upd_ne (Ne.symm hne)]; exact hx
  have x0 : Ext H1 (upd (upd H1 dx (.own x)) x (.ins (He.ga K "Lot") dx [])) := ext_set (ext_new hdx) hx
  refine ⟨x, dx, l, n, ms, rfl, upd_same, sqL_ext x0 hl, n1, n2, hlen, hnd, fun H' lm hk h1 h2 => ⟨rfl, hQ H' x (fun b o e => ?_) ⟨?_, dx, lm, h1, h2⟩⟩⟩
  · exact hk b o (ne_of_none e hx) (x0 b o e)
  · refine ⟨n1, n2, le_nodup_lt (srt_le _) (srt_nodup hnd), fun m hm => ?_⟩
    obtain ⟨k, _, rfl⟩ := List.mem_map.mp (mem_srt.mp hm)
    exact emod_rng n1 k
/-- Lot(n, each_once(residues)) -/
theorem once_mk {K : PySem.W.Frag} {H2 : Hp} {Q : VK} {E : XK} {p : Addr} {n : Int} {rs : List Int} (hl : SqL K H2 p (rs.map V.int)) (n1 : 1 ≤ n) (n2 : n ≤ 360) (hlen : rs.length ≤ 200000) (hr : ∀ r ∈ rs, 0 ≤ r ∧ r < n) (D : Done K H2 Q E (onceOut n rs)) :
    sp_each_once K [.ref p] H2 (fun v H3 => ∀ x dx, H3 x = none → H3 dx = none → dx ≠ x → sp_Lot_init K [.ref x, .int n, v] (upd (upd H3 dx (.own x)) x (.ins (He.ga K "Lot") dx [])) (fun v H4 => v = .non ∧ Q (.ref x) H4) E) E := by
  refine ⟨p, rs, rfl, hl, hlen, ?_⟩
  unfold onceOut at D
  cases e : rep rs with
  | some h =>
    rw [e] at D
    exact D
  | none =>
    rw [e] at D
    have ok := once_ok n1 n2 hr e
    have em : (srt rs).map (fun m => m % n) = srt rs := mod_id ok.rng
    exact fun H' q x0 hq => made_lot (sqL_of hq) n1 n2 (by have := ok.len; omega) (by rw [em]; exact lt_nodup ok.asc) fun H3 a x1 L => D H3 a (x0.trans x1) (by rw [em, srt_of_le (lt_le ok.asc)] at L; exact L)
end Bw
namespace Bw
open PySem PySem.Spec PyProof.Rows L2
theorem tyL {K : PySem.W.Frag} {H : Hp} {p : Addr} {xs : List V} (h : H p = some (.lst xs)) : tyV K "list" (.ref p) H := .inl ⟨rfl, xs, sqL_of h⟩
theorem rep_ints (k : Nat) (m : Int) : (List.replicate k [V.int m]).flatten = (List.replicate k m).map V.int := by
  induction k with
  | zero => rfl
  | succ k ih => rw [List.replicate_succ, List.flatten_cons, ih, List.replicate_succ]; rfl
theorem map_get {ns : List Int} {k : Nat} {i : Int} (h : ns[k]? = some i) : (ns.map V.int)[k]? = some (.int i) := by rw [List.getElem?_map, h] <;> rfl
theorem pow_pos_lt {m : Int} (h : 1 ≤ m ∧ m < 2 ^ 64) : CDivW (0 : Int) m := wide_div (b := 64) (by omega) (by omega) (by decide) (by decide)
theorem cdivW {i m : Int} (h : 1 ≤ m ∧ m < 2 ^ 64) : CDivW i m := wide_div (b := 64) (by omega) (by omega) (by decide) (by decide)
theorem cmulW {i j : Int} (h : i.natAbs < 2 ^ 200) (h' : j.natAbs < 2 ^ 200) : CMulW i j := wide_mul (a := 200) (b := 200) h h' (by decide) (by decide) (by decide)
end Bw
namespace Bw
open PySem PySem.Spec PyProof.Rows L2
theorem atI_map {fl : List Int} {i : Int} (h0 : 0 ≤ i) (h : i < fl.length) : ∃ f ∈ fl, atI (fl.map V.int) i = some (.int f) := by
  have hk : i.toNat < fl.length := by omega
  exact ⟨fl[i.toNat], List.getElem_mem hk, atI_nat (k := i.toNat) (by omega) (map_get (List.getElem?_eq_getElem hk))⟩
end Bw
namespace Bw
open PySem PySem.Spec PyProof.Rows L2
/-! ### tests whose answer is known -/
section
variable {K : PySem.W.Frag} {σ : L2.St} {H : Hp} {i j : Nat} {x y : V} {b : Bool} {c : TT} {t u v : TS} {D : Ends} {T T' : String}
theorem seqF (hc : ∀ R : Bool → Hp → Prop, R false H → c σ H R) (q : v D σ H) : tSeq (tIfS c t tNext) v D σ H := hc _ (iteF q)
theorem seqT (hc : ∀ R : Bool → Hp → Prop, R true H → c σ H R) (q : t { D with nx := v D } σ H) : tSeq (tIfS c t u) v D σ H := hc _ (iteT q)
theorem seqE (hc : ∀ R : Bool → Hp → Prop, R false H → c σ H R) (q : u { D with nx := v D } σ H) : tSeq (tIfS c t u) v D σ H := hc _ (iteF q)
theorem ifT (hc : ∀ R : Bool → Hp → Prop, R true H → c σ H R) (q : t D σ H) : tIfS c t u D σ H := hc _ (iteT q)
theorem ifF (hc : ∀ R : Bool → Hp → Prop, R false H → c σ H R) (q : u D σ H) : tIfS c t u D σ H := hc _ (iteF q)
theorem no_b (h : σ[i]? = some (some x)) (hb : decide (x = .non) = b) (R : Bool → Hp → Prop) (r : R b H) : tTest (tOp rIsNo (tVar i) (tC .non)) σ H R := ⟨_, h, rfl, _, congrArg V.bl hb, r⟩
theorem isl_b (h : σ[i]? = some (some x)) {z : Bool} (hb : decide (x = .bl z) = b) (R : Bool → Hp → Prop) (r : R b H) : tTest (tOp rIsL (tVar i) (tC (.bl z))) σ H R := ⟨_, h, z, rfl, _, congrArg V.bl hb, r⟩
theorem isi_v (h : σ[i]? = some (some x)) (t : TyX K H x (.type T')) (k : PySem.W.kitOne K (.type T') (.type T) = some b) (R : VK) (r : R (.bl b) H) : tCB (rIsi K) (tCons (tVar i) (tCons (tC (.ty T)) tNil)) σ H R := ⟨_, h, _, _, _, _, b, rfl, .ty _, t, k, r⟩
theorem isi_t (h : σ[i]? = some (some x)) (t : TyX K H x (.type T')) (k : PySem.W.kitOne K (.type T') (.type T) = some b) (R : Bool → Hp → Prop) (r : R b H) : tB (tCB (rIsi K) (tCons (tVar i) (tCons (tC (.ty T)) tNil))) σ H R := isi_v h t k _ ⟨_, rfl, r⟩
theorem not_b {z : Bool} (hc : ∀ R : Bool → Hp → Prop, R z H → c σ H R) (hb : (!z) = b) (R : Bool → Hp → Prop) (r : R b H) : tNot c σ H R := hc _ (by rw [hb]; exact r)
theorem or_F {c' : TT} (hc : ∀ R : Bool → Hp → Prop, R false H → c σ H R) (hc' : ∀ R : Bool → Hp → Prop, R b H → c' σ H R) (R : Bool → Hp → Prop) (r : R b H) : tOr c c' σ H R := hc _ (iteF (hc' _ r))
theorem eq_b {ta tb : TE} (ha : ∀ Q : VK, Q x H → ta σ H Q) (hb : ∀ Q : VK, Q y H → tb σ H Q) (hs : scal x y = true) (hx : decide (x = y) = b) (R : Bool → Hp → Prop) (r : R b H) : tTest (tOp rEq ta tb) σ H R := ha _ (hb _ ⟨hs, _, congrArg V.bl hx, r⟩)
theorem ne_b {ta tb : TE} (ha : ∀ Q : VK, Q x H → ta σ H Q) (hb : ∀ Q : VK, Q y H → tb σ H Q) (hs : scal x y = true) (hx : (!decide (x = y)) = b) (R : Bool → Hp → Prop) (r : R b H) : tTest (tOp rNe ta tb) σ H R := ha _ (hb _ ⟨hs, _, congrArg V.bl hx, r⟩)
theorem len_v {a : Addr} {xs : List V} (h : σ[i]? = some (some (.ref a))) (hs : SqL K H a xs ∨ SqT K H a xs) (Q : VK) (q : Q (.int (xs.length : Nat)) H) : tCB (rLenQ K) (tCons (tVar i) tNil) σ H Q := ⟨_, h, a, xs, rfl, hs, q⟩
end
end Bw
namespace Bw
open PySem PySem.Spec PyProof.Rows L2
/-! ### what is known in every heap that grows from here -/
def KB (c : TT) (σ : L2.St) (H : Hp) (b : Bool) : Prop := ∀ R : Bool → Hp → Prop, (∀ H1, Ext H H1 → R b H1) → c σ H R
def KV (t : TE) (σ : L2.St) (H : Hp) (v : V) : Prop := ∀ Q : VK, (∀ H1, Ext H H1 → Q v H1) → t σ H Q
section
variable {K : PySem.W.Frag} {σ : L2.St} {H : Hp} {i : Nat} {x y : V} {b z : Bool} {c c' : TT} {t u v : TS} {D : Ends} {ta tb : TE} {W : Value} {Wo : WX} {o : Option Nat} {ts : Suite} {l : List (Value × Option Nat × Suite)} {cls : Value} {d : Option Addr}
theorem KB.seqF (h : KB c σ H false) (q : ∀ H1, Ext H H1 → v D σ H1) : tSeq (tIfS c t tNext) v D σ H := h _ fun H1 e => iteF (q H1 e)
theorem KB.not (h : KB c σ H z) (hb : (!z) = b) : KB (tNot c) σ H b := fun R r => h _ fun H1 e => by rw [hb]; exact r H1 e
theorem KB.orF (h : KB c σ H false) (h' : ∀ H1, Ext H H1 → KB c' σ H1 b) : KB (tOr c c') σ H b := fun R r => h _ fun H1 e => iteF (h' H1 e _ fun H2 e2 => r H2 (e.trans e2))
theorem KV.test (h : KV ta σ H (.bl b)) : KB (tB ta) σ H b := fun R r => h _ fun H1 e => ⟨_, rfl, r H1 e⟩
theorem KV.and (h : KV ta σ H (.bl true)) (h' : ∀ H1, Ext H H1 → KV tb σ H1 x) : KV (tAndV ta tb) σ H x := fun Q q => h _ fun H1 e => ⟨true, rfl, iteT (h' H1 e _ fun H2 e2 => q H2 (e.trans e2))⟩
theorem KB.of (h : ∀ R : Bool → Hp → Prop, R b H → c σ H R) : KB c σ H b := fun R r => h R (r H (Ext.refl H))
theorem KV.of (h : ∀ Q : VK, Q x H → ta σ H Q) : KV ta σ H x := fun R r => h R (r H (Ext.refl H))
theorem isi_own {C : Addr} (h : σ[i]? = some (some x)) (t : TyX K H x (.ref C)) (R : Bool → Hp → Prop) (r : R true H) : tB (tCB (rIsi K) (tCons (tVar i) (tCons (tC (.ref C)) tNil))) σ H R :=
  ⟨_, h, _, _, _, _, true, rfl, .own C, t, by unfold PySem.W.kitOne; rw [if_pos (by simp)], _, rfl, r⟩
theorem wH_yes (e : PySem.W.exmOne K cls W = some true) (q : ∀ a, H a = none → suiteAt o ts cls d D σ H a) : wH K Wo D ((W, o, ts) :: l) cls d σ H := ⟨true, e, fun _ => q, fun z => by cases z⟩
theorem wH_no (e : PySem.W.exmOne K cls W = some false) (q : wH K Wo D l cls d σ H) : wH K Wo D ((W, o, ts) :: l) cls d σ H := ⟨false, e, fun z => (by cases z), fun _ => q⟩
end
end Bw
namespace Bw
open PySem PySem.Spec PyProof.Rows L2
theorem copies_rng {n t : Int} {ms : List Int} (h : ∀ m ∈ ms, 0 ≤ m ∧ m < n) (n1 : 1 ≤ n) (t0 : 0 ≤ t) : ∀ m ∈ copies n ms t, 0 ≤ m ∧ m < n * t := by
  intro m hm
  obtain ⟨lap, hl, hm⟩ := List.mem_flatMap.mp hm
  obtain ⟨k, hk, rfl⟩ := List.mem_map.mp hm
  have hl := List.mem_range.mp hl
  have := h k hk
  have e1 : 0 ≤ (lap : Int) * n := Int.mul_nonneg (by omega) (by omega)
  have e2 : ((lap : Int) + 1) * n ≤ t * n := Int.mul_le_mul_of_nonneg_right (by omega) (by omega)
  rw [Int.add_mul, Int.one_mul] at e2
  rw [Int.mul_comm n t]
  omega
theorem copies_asc {n t : Int} {ms : List Int} (h : ∀ m ∈ ms, 0 ≤ m ∧ m < n) (n1 : 1 ≤ n) (a : ms.Pairwise (· < ·)) : (copies n ms t).Pairwise (· < ·) := by
  unfold copies
  refine List.pairwise_flatMap.mpr ⟨fun lap _ => ?_, ?_⟩
  · exact List.pairwise_map.mpr (a.imp fun {x y} q => by omega)
  · refine List.pairwise_lt_range.imp fun {i j} hij x hx y hy => ?_
    obtain ⟨k, hk, rfl⟩ := List.mem_map.mp hx
    obtain ⟨k', hk', rfl⟩ := List.mem_map.mp hy
    have := h k hk
    have := h k' hk'
    have e2 : ((i : Int) + 1) * n ≤ (j : Int) * n := Int.mul_le_mul_of_nonneg_right (by omega) (by omega)
    rw [Int.add_mul, Int.one_mul] at e2
    omega
theorem copies_len {n t : Int} {ms : List Int} (h : LotOk n ms) (t1 : n * t ≤ 360) (t0 : 0 ≤ t) : (copies n ms t).length ≤ 360 := by
  have := asc_len _ 0 (n * t) (copies_asc (t := t) h.rng h.n1 h.asc) (copies_rng h.rng h.n1 t0)
  omega
end Bw
namespace Bw
theorem iteT_of {b : Bool} {A B : Prop} (h : b = true) (a : A) : if b = true then A else B := by rw [if_pos h]; exact a
theorem iteF_of {b : Bool} {A B : Prop} (h : b = false) (a : B) : if b = true then A else B := by rw [h, if_neg Bool.false_ne_true]; exact a
end Bw

namespace Bw
open PySem PySem.Spec PyProof.Rows L2
def t_hours_checked (K : PySem.W.Frag) (E : XK) : TS :=
  (tIfS (tNot (tTest (tChain rLeI rLeI (tC (.int 1)) (tVar 0) (tVar 1)))) (tRse (wE E) (tMkE (He.ga K "BadNumber") ok2 (fs2 "name" "value") (tCons (tC (.str "hours")) (tCons (tVar 0) tNil)))) tNext)
def t_rings_checked (K : PySem.W.Frag) (E : XK) : TS :=
  (tIfS (tTest (tOp rNe (tFldI (He.ga K "Lot") "hours" (tVar 0)) (tFldI (He.ga K "Lot") "hours" (tVar 1)))) (tRse (wE E) (tMkP (He.ga K "OtherHours"))) tNext)
def t_each_once (K : PySem.W.Frag) (E : XK) : TS :=
  (tSeq (tAsg (tCB (rSortedI K) (tCons (tLc (iList K (tVar 0)) (gName 3) tYes (tCB rInt1 (tCons (tVar 3) tNil)) [3]) tNil)) (gName 1))
  (tSeq (tFor (iRng2 (tCons (tC (.int 1)) (tCons (tCB (rLenQ K) (tCons (tVar 1) tNil)) tNil))) (gName 2) (tIfS (tTest (tOp rEq (tOp (rIxL K) (tVar 1) (tVar 2)) (tOp (rIxL K) (tVar 1) (tOp rSubI (tVar 2) (tC (.int 1)))))) (tRse (wE E) (tMkE (He.ga K "Meets") ok1 (fs1 "hour") (tCons (tOp (rIxL K) (tVar 1) (tVar 2)) tNil))) tNext))
  (tRet (tVar 1))))
def t_Lot_init (K : PySem.W.Frag) (E : XK) : TS :=
  (tSeq (tDrop (tC1 (sp_hours_checked K) (wE E) (tCons (tVar 1) (tCons (tConI (He.ga K "Lot") "MOST" (.int 360) (tVar 0)) tNil))))
  (tSeq (tAsg (tLc (iList K (tVar 2)) (gName 4) tYes (tOp rModN (tVar 4) (tVar 1)) [4]) (gName 3))
  (tSeq (tIfS (tTest (tOp rLtI (RZ.tLenSetI K (tVar 3)) (tCB (rLenQ K) (tCons (tVar 3) tNil)))) (tRse (wE E) (tMkE (He.ga K "RepeatedHour") ok1 (fs1 "hour") (tCons (tC1 (spF K) (wE E) (tCons (tVar 3) tNil)) tNil))) tNext)
  (tSeq (sFldI (He.ga K "Lot") "hours" (tVar 0) (tVar 1))
  (sFldI (He.ga K "Lot") "_members" (tVar 0) (tCB (rSortedI K) (tCons (tLc (iList K (tVar 3)) (gName 5) tYes (tCB rInt1 (tCons (tVar 5) tNil)) [5]) tNil)))))))
def t_Lot_members (K : PySem.W.Frag) (E : XK) : TS :=
  (tRet (tCB (rListOf K) (tCons (tFldI (He.ga K "Lot") "_members" (tVar 0)) tNil)))
def t_Lot_len (K : PySem.W.Frag) (E : XK) : TS :=
  (tRet (tCB (rLenQ K) (tCons (tFldI (He.ga K "Lot") "_members" (tVar 0)) tNil)))
def t_Lot_mul (K : PySem.W.Frag) (E : XK) : TS :=
  (tRet (tMk1 (He.ga K "Lot") (sp_Lot_init K) (wE E) (tCons (tFldI (He.ga K "Lot") "hours" (tVar 0)) (tCons (tC1 (sp_each_once K) (wE E) (tCons (tLc (iList K (tFldI (He.ga K "Lot") "_members" (tVar 0))) (gName 2) tYes (tOp rModN (tOp rMulW (tVar 2) (tVar 1)) (tFldI (He.ga K "Lot") "hours" (tVar 0))) [2]) tNil)) tNil))))
def t_Lot_rmul (K : PySem.W.Frag) (E : XK) : TS :=
  (tRet (tBinN (He.ga K "Lot") (sp_Lot_mul K) (wE E) (tVar 0) (tVar 1)))
def t_Lot_add (K : PySem.W.Frag) (E : XK) : TS :=
  (tSeq (tDrop (tC1 (sp_rings_checked K) (wE E) (tCons (tVar 0) (tCons (tVar 1) tNil))))
  (tSeq (tAsg (tLc2 (iList K (tFldI (He.ga K "Lot") "_members" (tVar 0))) (gName 3) tYes (iList K (tFldI (He.ga K "Lot") "_members" (tVar 1))) (gName 4) tYes (tOp rModN (tOp rAddI (tVar 3) (tVar 4)) (tFldI (He.ga K "Lot") "hours" (tVar 0))) [3, 4] [4]) (gName 2))
  (tRet (tMk1 (He.ga K "Lot") (sp_Lot_init K) (wE E) (tCons (tFldI (He.ga K "Lot") "hours" (tVar 0)) (tCons (tC1 (sp_each_once K) (wE E) (tCons (tVar 2) tNil)) tNil))))))
def t_Lot_mod (K : PySem.W.Frag) (E : XK) : TS :=
  (tSeq (tIfS (tOr (tTest (tOp rLtI (tVar 1) (tC (.int 1)))) (tTest (tOp rNe (tOp rModN (tFldI (He.ga K "Lot") "hours" (tVar 0)) (tVar 1)) (tC (.int 0))))) (tRse (wE E) (tMkE (He.ga K "NotADivisor") ok1 (fs1 "number") (tCons (tVar 1) tNil))) tNext)
  (tRet (tMk1 (He.ga K "Lot") (sp_Lot_init K) (wE E) (tCons (tVar 1) (tCons (tC1 (sp_each_once K) (wE E) (tCons (tLc (iList K (tFldI (He.ga K "Lot") "_members" (tVar 0))) (gName 2) tYes (tOp rModN (tVar 2) (tVar 1)) [2]) tNil)) tNil)))))
def t_Lot_pow (K : PySem.W.Frag) (E : XK) : TS :=
  (tSeq (tIfS (tTest (tOp rLtI (tVar 1) (tC (.int 1)))) (tRse (wE E) (tMkE (He.ga K "BadNumber") ok2 (fs2 "name" "value") (tCons (tC (.str "times")) (tCons (tVar 1) tNil)))) tNext)
  (tSeq (tDrop (tC1 (sp_hours_checked K) (wE E) (tCons (tOp rMulW (tFldI (He.ga K "Lot") "hours" (tVar 0)) (tVar 1)) (tCons (tConI (He.ga K "Lot") "MOST" (.int 360) (tVar 0)) tNil))))
  (tSeq (tAsg (tLc2 (iRng1 (tCons (tVar 1) tNil)) (gName 3) tYes (iList K (tFldI (He.ga K "Lot") "_members" (tVar 0))) (gName 4) tYes (tOp rAddI (tVar 4) (tOp rMulW (tVar 3) (tFldI (He.ga K "Lot") "hours" (tVar 0)))) [3, 4] [4]) (gName 2))
  (tRet (tMk1 (He.ga K "Lot") (sp_Lot_init K) (wE E) (tCons (tOp rMulW (tFldI (He.ga K "Lot") "hours" (tVar 0)) (tVar 1)) (tCons (tVar 2) tNil)))))))
def t_l_cell (K : PySem.W.Frag) (E : XK) : TS :=
  (tSeq (tIfS (tTest (tOp rLtI (tVar 1) (tCB (rLenQ K) (tCons (tVar 0) tNil)))) (tRet (tCB rAbs (tCons (tOp (rIxL K) (tVar 0) (tVar 1)) tNil))) tNext)
  (tRet (tC (.int 0))))
def t_l_draws (K : PySem.W.Frag) (E : XK) : TS :=
  (tSeq (tAsg (tLst tNil) (gName 3))
  (tSeq (tAsg (tOp rSubI (tVar 0) (tOp rPowI (tC (.int 10)) (tC (.int 18)))) (gName 4))
  (tSeq (tAsg (tOp rAddI (tVar 0) (tOp rMulW (tC (.int 7919)) (tVar 1))) (gName 5))
  (tSeq (tFor (iRng1 (tCons (tCB (rLenQ K) (tCons (tVar 2) tNil)) tNil)) (gName 6) (tIfS (tTest (tOp rGeI (tVar 4) (tC (.int 0)))) (tSeq (tDrop (tBM K "list" rAppend (tVar 3) (tCons (tOp rModN (tCB rInt1 (tCons (tVar 4) tNil)) (tOp (rIxL K) (tVar 2) (tVar 6))) tNil)))
  (tAsg (tOp rDivW (tVar 4) (tOp (rIxL K) (tVar 2) (tVar 6))) (gName 4))) (tSeq (tAsg (tOp rModN (tCB rInt1 (tCons (tOp rAddI (tOp rAddI (tOp rMulW (tVar 5) (tVar 5)) (tOp rMulW (tC (.int 3571)) (tOp rAddI (tVar 6) (tC (.int 1))))) (tC (.int 40692))) tNil)) (tC (.int 2147483399))) (gName 5))
  (tSeq (tAsg (tOp rModN (tCB rInt1 (tCons (tOp rAddI (tOp rMulW (tVar 5) (tVar 5)) (tOp rDivW (tVar 5) (tC (.int 97)))) tNil)) (tC (.int 2147483629))) (gName 5))
  (tDrop (tBM K "list" rAppend (tVar 3) (tCons (tOp rModN (tCB rInt1 (tCons (tOp rDivW (tVar 5) (tC (.int 8))) tNil)) (tOp (rIxL K) (tVar 2) (tVar 6))) tNil)))))))
  (tRet (tVar 3))))))
def t_l_is_int (K : PySem.W.Frag) (E : XK) : TS :=
  (tRet (tAndV (tCB (rIsi K) (tCons (tVar 0) (tCons (tC (.ty "int")) tNil))) (tNotV (tCB (rIsi K) (tCons (tVar 0) (tCons (tC (.ty "bool")) tNil))))))
def t_l_same (K : PySem.W.Frag) (sr : Sp) (E : XK) : TS :=
  (tSeq (tIfS (tTest (tOp rIsNo (tVar 1) (tC .non))) (tRet (tOp rIsNo (tVar 0) (tC .non))) tNext)
  (tSeq (tIfS (tTest (tOp rIsL (tVar 1) (tC (.bl true)))) (tRet (tOp rIsL (tVar 0) (tC (.bl true)))) tNext)
  (tSeq (tIfS (tTest (tOp rIsL (tVar 1) (tC (.bl false)))) (tRet (tOp rIsL (tVar 0) (tC (.bl false)))) tNext)
  (tSeq (tIfS (tB (tCB (rIsi K) (tCons (tVar 1) (tCons (tC (.ty "int")) tNil)))) (tRet (tAndV (tC1 (sp_l_is_int K) (wE E) (tCons (tVar 0) tNil)) (tOp rEq (tVar 0) (tVar 1)))) tNext)
  (tSeq (tIfS (tB (tCB (rIsi K) (tCons (tVar 1) (tCons (tC (.ty "str")) tNil)))) (tRet (tAndV (tCB (rIsi K) (tCons (tVar 0) (tCons (tC (.ty "str")) tNil))) (tOp rEq (tVar 0) (tVar 1)))) tNext)
  (tSeq (tIfS (tB (tCB (rIsi K) (tCons (tVar 1) (tCons (tC (.ty "tuple")) tNil)))) (tIfS (tOr (tNot (tB (tCB (rIsi K) (tCons (tVar 0) (tCons (tC (.ty "tuple")) tNil))))) (tTest (tOp rNe (tCB (rLenQ K) (tCons (tVar 0) tNil)) (tCB (rLenQ K) (tCons (tVar 1) tNil))))) (tRet (tC (.bl false))) tNext) (tIfS (tOr (tNot (tB (tCB (rIsi K) (tCons (tVar 0) (tCons (tC (.ty "list")) tNil))))) (tTest (tOp rNe (tCB (rLenQ K) (tCons (tVar 0) tNil)) (tCB (rLenQ K) (tCons (tVar 1) tNil))))) (tRet (tC (.bl false))) tNext))
  (tSeq (tFor (iRng1 (tCons (tCB (rLenQ K) (tCons (tVar 1) tNil)) tNil)) (gName 2) (tIfS (tNot (tB (tC1 sr (wE E) (tCons (fun σ H Q => (tOp (rIxL K) (tVar 0) (tVar 2)) σ H Q ∨ (tOp (rIxT K) (tVar 0) (tVar 2)) σ H Q) (tCons (fun σ H Q => (tOp (rIxL K) (tVar 1) (tVar 2)) σ H Q ∨ (tOp (rIxT K) (tVar 1) (tVar 2)) σ H Q) tNil))))) (tRet (tC (.bl false))) tNext))
  (tRet (tC (.bl true))))))))))
def t_l_digits (K : PySem.W.Frag) (E : XK) : TS :=
  (tSeq (tAsg (tC (.int 0)) (gName 2))
  (tSeq (tFor (iList K (tC1 (sp_l_draws K) (wE E) (tCons (tVar 0) (tCons (tVar 1) (tCons (tOp rRep (tLst (tCons (tOp rPowI (tC (.int 10)) (tC (.int 10))) tNil)) (tC (.int 6))) tNil))))) (gName 3) (tAsg (tOp rAddI (tOp rMulW (tVar 2) (tOp rPowI (tC (.int 10)) (tC (.int 10)))) (tVar 3)) (gName 2)))
  (tRet (tVar 2))))
def t_l_bits (K : PySem.W.Frag) (E : XK) : TS :=
  (tSeq (tAsg (tLst tNil) (gName 2))
  (tSeq (tFor (iRng1 (tCons (tVar 0) tNil)) (gName 3) (tSeq (tIfS (tTest (tOp rEq (tOp rModN (tCB rInt1 (tCons (tVar 1) tNil)) (tC (.int 2))) (tC (.int 1)))) (tDrop (tBM K "list" rAppend (tVar 2) (tCons (tVar 3) tNil))) tNext)
  (tAsg (tOp rDivW (tVar 1) (tC (.int 2))) (gName 1))))
  (tRet (tVar 2))))
def t_l_subset (K : PySem.W.Frag) (E : XK) : TS :=
  (tSeq (tAsg (tLst tNil) (gName 3))
  (tSeq (tAsg (tC1 (sp_l_draws K) (wE E) (tCons (tVar 0) (tCons (tVar 1) (tCons (tOp rRep (tLst (tCons (tOp rPowI (tC (.int 2)) (tC (.int 25))) tNil)) (tOp rAddI (tC (.int 1)) (tOp rDivW (tOp rSubI (tVar 2) (tC (.int 1))) (tC (.int 25))))) tNil)))) (gName 4))
  (tSeq (tFor (iRng1 (tCons (tCB (rLenQ K) (tCons (tVar 4) tNil)) tNil)) (gName 5) (tAsg (tOp rCat (tVar 3) (tLc (iList K (tC1 (sp_l_bits K) (wE E) (tCons (tC (.int 25)) (tCons (tOp (rIxL K) (tVar 4) (tVar 5)) tNil)))) (gName 6) (tTest (tOp rLtI (tOp rAddI (tOp rMulW (tC (.int 25)) (tVar 5)) (tVar 6)) (tVar 2))) (tOp rAddI (tOp rMulW (tC (.int 25)) (tVar 5)) (tVar 6)) [6])) (gName 3)))
  (tRet (tVar 3)))))
def t_l_drawn_lot (K : PySem.W.Frag) (E : XK) : TS :=
  (tSeq (tIfS (tTest (tOp rEq (tVar 3) (tC (.int 0)))) (tRet (tLst tNil)) tNext)
  (tSeq (tIfS (tTest (tOp rEq (tVar 3) (tC (.int 1)))) (tRet (tLstRg (tRg1 (tVar 2)))) tNext)
  (tSeq (tAsg (tC1 (sp_l_subset K) (wE E) (tCons (tVar 0) (tCons (tVar 1) (tCons (tVar 2) tNil)))) (gName 4))
  (tSeq (tIfS (tTest (tOp rEq (tVar 3) (tC (.int 2)))) (tRet (tSl (rSlL K) (tVar 4) tNoPart (tPart (tC (.int 1))))) tNext)
  (tRet (tVar 4))))))
def t_l_divisors (K : PySem.W.Frag) (E : XK) : TS :=
  (tRet (tLc (iRng2 (tCons (tC (.int 1)) (tCons (tOp rAddI (tVar 0) (tC (.int 1))) tNil))) (gName 1) (tTest (tOp rEq (tOp rModN (tCB rInt1 (tCons (tVar 0) tNil)) (tVar 1)) (tC (.int 0)))) (tVar 1) [1]))
def t_l_numbers (K : PySem.W.Frag) (E : XK) : TS :=
  (tSeq (tAsg (tC1 (sp_l_draws K) (wE E) (tCons (tC1 (sp_l_cell K) (wE E) (tCons (tVar 0) (tCons (tC (.int 3)) tNil))) (tCons (tC (.int 2787)) (tCons (tLst (tCons (tC (.int 6)) (tCons (tC (.int 2)) (tCons (tC (.int 6)) (tCons (tC (.int 360)) (tCons (tC (.int 65)) tNil)))))) tNil)))) (gName 2))
  (tSeq (tAsg (tC1 (sp_l_digits K) (wE E) (tCons (tC1 (sp_l_cell K) (wE E) (tCons (tVar 0) (tCons (tC (.int 4)) tNil))) (tCons (tC (.int 43)) tNil))) (gName 3))
  (tSeq (tAsg (tOp (rIxL K) (tLst (tCons (tC (.int 0)) (tCons (tC (.int 1)) (tCons (tOp rSubI (tVar 1) (tC (.int 1))) (tCons (tOp rModN (tCB rInt1 (tCons (tVar 3) tNil)) (tVar 1)) (tCons (tVar 3) (tCons (tVar 3) tNil))))))) (tOp (rIxL K) (tVar 2) (tC (.int 0)))) (gName 4))
  (tSeq (tIfS (tTest (tOp rEq (tOp (rIxL K) (tVar 2) (tC (.int 1))) (tC (.int 1)))) (tAsg (tOp rSubI (tC (.int 0)) (tVar 4)) (gName 4)) tNext)
  (tSeq (tAsg (tC1 (sp_l_divisors K) (wE E) (tCons (tVar 1) tNil)) (gName 5))
  (tSeq (tAsg (tOp (rIxL K) (tVar 5) (tOp rModN (tCB rInt1 (tCons (tOp (rIxL K) (tVar 2) (tC (.int 3))) tNil)) (tCB (rLenQ K) (tCons (tVar 5) tNil)))) (gName 6))
  (tRet (tTup (tCons (tVar 4) (tCons (tOp (rIxL K) (tLst (tCons (tVar 6) (tCons (tVar 6) (tCons (tC (.int 0)) (tCons (tOp rSubI (tC (.int 0)) (tVar 6)) (tCons (tOp rAddI (tC (.int 1)) (tOp rModN (tCB rInt1 (tCons (tVar 3) tNil)) (tC (.int 400)))) (tCons (tVar 3) tNil))))))) (tOp (rIxL K) (tVar 2) (tC (.int 2)))) (tCons (tOp (rIxL K) (tVar 2) (tC (.int 4))) tNil)))))))))))
def t_l_copies_to_21 (K : PySem.W.Frag) (E : XK) : TS :=
  (tSeq (tIfS (tTest (tOp rEq (tVar 1) (tC (.int 0)))) (tRet (tBinN (He.ga K "Lot") (sp_Lot_pow K) (wE E) (tVar 0) (tC (.int 0)))) tNext)
  (tSeq (tIfS (tTest (tOp rEq (tVar 1) (tC (.int 1)))) (tRet (tBinN (He.ga K "Lot") (sp_Lot_pow K) (wE E) (tVar 0) (tC (.int 1)))) tNext)
  (tSeq (tIfS (tTest (tOp rEq (tVar 1) (tC (.int 2)))) (tRet (tBinN (He.ga K "Lot") (sp_Lot_pow K) (wE E) (tVar 0) (tC (.int 2)))) tNext)
  (tSeq (tIfS (tTest (tOp rEq (tVar 1) (tC (.int 3)))) (tRet (tBinN (He.ga K "Lot") (sp_Lot_pow K) (wE E) (tVar 0) (tC (.int 3)))) tNext)
  (tSeq (tIfS (tTest (tOp rEq (tVar 1) (tC (.int 4)))) (tRet (tBinN (He.ga K "Lot") (sp_Lot_pow K) (wE E) (tVar 0) (tC (.int 4)))) tNext)
  (tSeq (tIfS (tTest (tOp rEq (tVar 1) (tC (.int 5)))) (tRet (tBinN (He.ga K "Lot") (sp_Lot_pow K) (wE E) (tVar 0) (tC (.int 5)))) tNext)
  (tSeq (tIfS (tTest (tOp rEq (tVar 1) (tC (.int 6)))) (tRet (tBinN (He.ga K "Lot") (sp_Lot_pow K) (wE E) (tVar 0) (tC (.int 6)))) tNext)
  (tSeq (tIfS (tTest (tOp rEq (tVar 1) (tC (.int 7)))) (tRet (tBinN (He.ga K "Lot") (sp_Lot_pow K) (wE E) (tVar 0) (tC (.int 7)))) tNext)
  (tSeq (tIfS (tTest (tOp rEq (tVar 1) (tC (.int 8)))) (tRet (tBinN (He.ga K "Lot") (sp_Lot_pow K) (wE E) (tVar 0) (tC (.int 8)))) tNext)
  (tSeq (tIfS (tTest (tOp rEq (tVar 1) (tC (.int 9)))) (tRet (tBinN (He.ga K "Lot") (sp_Lot_pow K) (wE E) (tVar 0) (tC (.int 9)))) tNext)
  (tSeq (tIfS (tTest (tOp rEq (tVar 1) (tC (.int 10)))) (tRet (tBinN (He.ga K "Lot") (sp_Lot_pow K) (wE E) (tVar 0) (tC (.int 10)))) tNext)
  (tSeq (tIfS (tTest (tOp rEq (tVar 1) (tC (.int 11)))) (tRet (tBinN (He.ga K "Lot") (sp_Lot_pow K) (wE E) (tVar 0) (tC (.int 11)))) tNext)
  (tSeq (tIfS (tTest (tOp rEq (tVar 1) (tC (.int 12)))) (tRet (tBinN (He.ga K "Lot") (sp_Lot_pow K) (wE E) (tVar 0) (tC (.int 12)))) tNext)
  (tSeq (tIfS (tTest (tOp rEq (tVar 1) (tC (.int 13)))) (tRet (tBinN (He.ga K "Lot") (sp_Lot_pow K) (wE E) (tVar 0) (tC (.int 13)))) tNext)
  (tSeq (tIfS (tTest (tOp rEq (tVar 1) (tC (.int 14)))) (tRet (tBinN (He.ga K "Lot") (sp_Lot_pow K) (wE E) (tVar 0) (tC (.int 14)))) tNext)
  (tSeq (tIfS (tTest (tOp rEq (tVar 1) (tC (.int 15)))) (tRet (tBinN (He.ga K "Lot") (sp_Lot_pow K) (wE E) (tVar 0) (tC (.int 15)))) tNext)
  (tSeq (tIfS (tTest (tOp rEq (tVar 1) (tC (.int 16)))) (tRet (tBinN (He.ga K "Lot") (sp_Lot_pow K) (wE E) (tVar 0) (tC (.int 16)))) tNext)
  (tSeq (tIfS (tTest (tOp rEq (tVar 1) (tC (.int 17)))) (tRet (tBinN (He.ga K "Lot") (sp_Lot_pow K) (wE E) (tVar 0) (tC (.int 17)))) tNext)
  (tSeq (tIfS (tTest (tOp rEq (tVar 1) (tC (.int 18)))) (tRet (tBinN (He.ga K "Lot") (sp_Lot_pow K) (wE E) (tVar 0) (tC (.int 18)))) tNext)
  (tSeq (tIfS (tTest (tOp rEq (tVar 1) (tC (.int 19)))) (tRet (tBinN (He.ga K "Lot") (sp_Lot_pow K) (wE E) (tVar 0) (tC (.int 19)))) tNext)
  (tSeq (tIfS (tTest (tOp rEq (tVar 1) (tC (.int 20)))) (tRet (tBinN (He.ga K "Lot") (sp_Lot_pow K) (wE E) (tVar 0) (tC (.int 20)))) tNext)
  (tRet (tBinN (He.ga K "Lot") (sp_Lot_pow K) (wE E) (tVar 0) (tC (.int 21)))))))))))))))))))))))))
def t_l_copies_to_43 (K : PySem.W.Frag) (E : XK) : TS :=
  (tSeq (tIfS (tTest (tOp rEq (tVar 1) (tC (.int 22)))) (tRet (tBinN (He.ga K "Lot") (sp_Lot_pow K) (wE E) (tVar 0) (tC (.int 22)))) tNext)
  (tSeq (tIfS (tTest (tOp rEq (tVar 1) (tC (.int 23)))) (tRet (tBinN (He.ga K "Lot") (sp_Lot_pow K) (wE E) (tVar 0) (tC (.int 23)))) tNext)
  (tSeq (tIfS (tTest (tOp rEq (tVar 1) (tC (.int 24)))) (tRet (tBinN (He.ga K "Lot") (sp_Lot_pow K) (wE E) (tVar 0) (tC (.int 24)))) tNext)
  (tSeq (tIfS (tTest (tOp rEq (tVar 1) (tC (.int 25)))) (tRet (tBinN (He.ga K "Lot") (sp_Lot_pow K) (wE E) (tVar 0) (tC (.int 25)))) tNext)
  (tSeq (tIfS (tTest (tOp rEq (tVar 1) (tC (.int 26)))) (tRet (tBinN (He.ga K "Lot") (sp_Lot_pow K) (wE E) (tVar 0) (tC (.int 26)))) tNext)
  (tSeq (tIfS (tTest (tOp rEq (tVar 1) (tC (.int 27)))) (tRet (tBinN (He.ga K "Lot") (sp_Lot_pow K) (wE E) (tVar 0) (tC (.int 27)))) tNext)
  (tSeq (tIfS (tTest (tOp rEq (tVar 1) (tC (.int 28)))) (tRet (tBinN (He.ga K "Lot") (sp_Lot_pow K) (wE E) (tVar 0) (tC (.int 28)))) tNext)
  (tSeq (tIfS (tTest (tOp rEq (tVar 1) (tC (.int 29)))) (tRet (tBinN (He.ga K "Lot") (sp_Lot_pow K) (wE E) (tVar 0) (tC (.int 29)))) tNext)
  (tSeq (tIfS (tTest (tOp rEq (tVar 1) (tC (.int 30)))) (tRet (tBinN (He.ga K "Lot") (sp_Lot_pow K) (wE E) (tVar 0) (tC (.int 30)))) tNext)
  (tSeq (tIfS (tTest (tOp rEq (tVar 1) (tC (.int 31)))) (tRet (tBinN (He.ga K "Lot") (sp_Lot_pow K) (wE E) (tVar 0) (tC (.int 31)))) tNext)
  (tSeq (tIfS (tTest (tOp rEq (tVar 1) (tC (.int 32)))) (tRet (tBinN (He.ga K "Lot") (sp_Lot_pow K) (wE E) (tVar 0) (tC (.int 32)))) tNext)
  (tSeq (tIfS (tTest (tOp rEq (tVar 1) (tC (.int 33)))) (tRet (tBinN (He.ga K "Lot") (sp_Lot_pow K) (wE E) (tVar 0) (tC (.int 33)))) tNext)
  (tSeq (tIfS (tTest (tOp rEq (tVar 1) (tC (.int 34)))) (tRet (tBinN (He.ga K "Lot") (sp_Lot_pow K) (wE E) (tVar 0) (tC (.int 34)))) tNext)
  (tSeq (tIfS (tTest (tOp rEq (tVar 1) (tC (.int 35)))) (tRet (tBinN (He.ga K "Lot") (sp_Lot_pow K) (wE E) (tVar 0) (tC (.int 35)))) tNext)
  (tSeq (tIfS (tTest (tOp rEq (tVar 1) (tC (.int 36)))) (tRet (tBinN (He.ga K "Lot") (sp_Lot_pow K) (wE E) (tVar 0) (tC (.int 36)))) tNext)
  (tSeq (tIfS (tTest (tOp rEq (tVar 1) (tC (.int 37)))) (tRet (tBinN (He.ga K "Lot") (sp_Lot_pow K) (wE E) (tVar 0) (tC (.int 37)))) tNext)
  (tSeq (tIfS (tTest (tOp rEq (tVar 1) (tC (.int 38)))) (tRet (tBinN (He.ga K "Lot") (sp_Lot_pow K) (wE E) (tVar 0) (tC (.int 38)))) tNext)
  (tSeq (tIfS (tTest (tOp rEq (tVar 1) (tC (.int 39)))) (tRet (tBinN (He.ga K "Lot") (sp_Lot_pow K) (wE E) (tVar 0) (tC (.int 39)))) tNext)
  (tSeq (tIfS (tTest (tOp rEq (tVar 1) (tC (.int 40)))) (tRet (tBinN (He.ga K "Lot") (sp_Lot_pow K) (wE E) (tVar 0) (tC (.int 40)))) tNext)
  (tSeq (tIfS (tTest (tOp rEq (tVar 1) (tC (.int 41)))) (tRet (tBinN (He.ga K "Lot") (sp_Lot_pow K) (wE E) (tVar 0) (tC (.int 41)))) tNext)
  (tSeq (tIfS (tTest (tOp rEq (tVar 1) (tC (.int 42)))) (tRet (tBinN (He.ga K "Lot") (sp_Lot_pow K) (wE E) (tVar 0) (tC (.int 42)))) tNext)
  (tRet (tBinN (He.ga K "Lot") (sp_Lot_pow K) (wE E) (tVar 0) (tC (.int 43)))))))))))))))))))))))))
def t_l_copies_to_64 (K : PySem.W.Frag) (E : XK) : TS :=
  (tSeq (tIfS (tTest (tOp rEq (tVar 1) (tC (.int 44)))) (tRet (tBinN (He.ga K "Lot") (sp_Lot_pow K) (wE E) (tVar 0) (tC (.int 44)))) tNext)
  (tSeq (tIfS (tTest (tOp rEq (tVar 1) (tC (.int 45)))) (tRet (tBinN (He.ga K "Lot") (sp_Lot_pow K) (wE E) (tVar 0) (tC (.int 45)))) tNext)
  (tSeq (tIfS (tTest (tOp rEq (tVar 1) (tC (.int 46)))) (tRet (tBinN (He.ga K "Lot") (sp_Lot_pow K) (wE E) (tVar 0) (tC (.int 46)))) tNext)
  (tSeq (tIfS (tTest (tOp rEq (tVar 1) (tC (.int 47)))) (tRet (tBinN (He.ga K "Lot") (sp_Lot_pow K) (wE E) (tVar 0) (tC (.int 47)))) tNext)
  (tSeq (tIfS (tTest (tOp rEq (tVar 1) (tC (.int 48)))) (tRet (tBinN (He.ga K "Lot") (sp_Lot_pow K) (wE E) (tVar 0) (tC (.int 48)))) tNext)
  (tSeq (tIfS (tTest (tOp rEq (tVar 1) (tC (.int 49)))) (tRet (tBinN (He.ga K "Lot") (sp_Lot_pow K) (wE E) (tVar 0) (tC (.int 49)))) tNext)
  (tSeq (tIfS (tTest (tOp rEq (tVar 1) (tC (.int 50)))) (tRet (tBinN (He.ga K "Lot") (sp_Lot_pow K) (wE E) (tVar 0) (tC (.int 50)))) tNext)
  (tSeq (tIfS (tTest (tOp rEq (tVar 1) (tC (.int 51)))) (tRet (tBinN (He.ga K "Lot") (sp_Lot_pow K) (wE E) (tVar 0) (tC (.int 51)))) tNext)
  (tSeq (tIfS (tTest (tOp rEq (tVar 1) (tC (.int 52)))) (tRet (tBinN (He.ga K "Lot") (sp_Lot_pow K) (wE E) (tVar 0) (tC (.int 52)))) tNext)
  (tSeq (tIfS (tTest (tOp rEq (tVar 1) (tC (.int 53)))) (tRet (tBinN (He.ga K "Lot") (sp_Lot_pow K) (wE E) (tVar 0) (tC (.int 53)))) tNext)
  (tSeq (tIfS (tTest (tOp rEq (tVar 1) (tC (.int 54)))) (tRet (tBinN (He.ga K "Lot") (sp_Lot_pow K) (wE E) (tVar 0) (tC (.int 54)))) tNext)
  (tSeq (tIfS (tTest (tOp rEq (tVar 1) (tC (.int 55)))) (tRet (tBinN (He.ga K "Lot") (sp_Lot_pow K) (wE E) (tVar 0) (tC (.int 55)))) tNext)
  (tSeq (tIfS (tTest (tOp rEq (tVar 1) (tC (.int 56)))) (tRet (tBinN (He.ga K "Lot") (sp_Lot_pow K) (wE E) (tVar 0) (tC (.int 56)))) tNext)
  (tSeq (tIfS (tTest (tOp rEq (tVar 1) (tC (.int 57)))) (tRet (tBinN (He.ga K "Lot") (sp_Lot_pow K) (wE E) (tVar 0) (tC (.int 57)))) tNext)
  (tSeq (tIfS (tTest (tOp rEq (tVar 1) (tC (.int 58)))) (tRet (tBinN (He.ga K "Lot") (sp_Lot_pow K) (wE E) (tVar 0) (tC (.int 58)))) tNext)
  (tSeq (tIfS (tTest (tOp rEq (tVar 1) (tC (.int 59)))) (tRet (tBinN (He.ga K "Lot") (sp_Lot_pow K) (wE E) (tVar 0) (tC (.int 59)))) tNext)
  (tSeq (tIfS (tTest (tOp rEq (tVar 1) (tC (.int 60)))) (tRet (tBinN (He.ga K "Lot") (sp_Lot_pow K) (wE E) (tVar 0) (tC (.int 60)))) tNext)
  (tSeq (tIfS (tTest (tOp rEq (tVar 1) (tC (.int 61)))) (tRet (tBinN (He.ga K "Lot") (sp_Lot_pow K) (wE E) (tVar 0) (tC (.int 61)))) tNext)
  (tSeq (tIfS (tTest (tOp rEq (tVar 1) (tC (.int 62)))) (tRet (tBinN (He.ga K "Lot") (sp_Lot_pow K) (wE E) (tVar 0) (tC (.int 62)))) tNext)
  (tSeq (tIfS (tTest (tOp rEq (tVar 1) (tC (.int 63)))) (tRet (tBinN (He.ga K "Lot") (sp_Lot_pow K) (wE E) (tVar 0) (tC (.int 63)))) tNext)
  (tRet (tBinN (He.ga K "Lot") (sp_Lot_pow K) (wE E) (tVar 0) (tC (.int 64))))))))))))))))))))))))
def t_l_copies (K : PySem.W.Frag) (E : XK) : TS :=
  (tSeq (tIfS (tTest (tOp rLtI (tVar 1) (tC (.int 22)))) (tRet (tC1 (sp_l_copies_to_21 K) (wE E) (tCons (tVar 0) (tCons (tVar 1) tNil)))) tNext)
  (tSeq (tIfS (tTest (tOp rLtI (tVar 1) (tC (.int 44)))) (tRet (tC1 (sp_l_copies_to_43 K) (wE E) (tCons (tVar 0) (tCons (tVar 1) tNil)))) tNext)
  (tRet (tC1 (sp_l_copies_to_64 K) (wE E) (tCons (tVar 0) (tCons (tVar 1) tNil))))))
def t_l_done (K : PySem.W.Frag) (E : XK) : TS :=
  (tSeq (tIfS (tTest (tOp rEq (tVar 2) (tC (.int 0)))) (tRet (fun σ H Q => (tBinN (He.ga K "Lot") (sp_Lot_mul K) (wE E) (tVar 0) (tVar 1)) σ H Q ∨ (tRefI (He.ga K "Lot") (sp_Lot_rmul K) (wE E) (tVar 0) (tVar 1)) σ H Q)) tNext)
  (tSeq (tIfS (tTest (tOp rEq (tVar 2) (tC (.int 1)))) (tRet (tBinI (He.ga K "Lot") (sp_Lot_add K) (wE E) (tVar 0) (tVar 1))) tNext)
  (tSeq (tIfS (tTest (tOp rEq (tVar 2) (tC (.int 2)))) (tRet (tBinN (He.ga K "Lot") (sp_Lot_mod K) (wE E) (tVar 0) (tVar 1))) tNext)
  (tRet (tC1 (sp_l_copies K) (wE E) (tCons (tVar 0) (tCons (tVar 1) tNil)))))))
def t_l_told (K : PySem.W.Frag) (E : XK) : TS :=
  (tSeq (tAsg (tC .non) (gName 3))
  (tSeq (tTry K (wE E) (fun W => (tAsg (tC1 (sp_l_done K) W (tCons (tVar 0) (tCons (tVar 1) (tCons (tVar 2) tNil)))) (gName 3))) [((.ref (He.ga K "Meets")), (some 4), fun a cls d => (tAsg (tTup (tCons (tC (.str "Meets")) (tCons (tXf a cls d (He.ga K "Meets") "hour" (tVar 4)) tNil))) (gName 3))),
    ((.ref (He.ga K "OtherHours")), none, fun a cls d => (tAsg (tTup (tCons (tC (.str "OtherHours")) tNil)) (gName 3))),
    ((.ref (He.ga K "NotADivisor")), (some 4), fun a cls d => (tAsg (tTup (tCons (tC (.str "NotADivisor")) (tCons (tXf a cls d (He.ga K "NotADivisor") "number" (tVar 4)) tNil))) (gName 3))),
    ((.ref (He.ga K "BadNumber")), (some 4), fun a cls d => (tAsg (tTup (tCons (tC (.str "BadNumber")) (tCons (tXf a cls d (He.ga K "BadNumber") "name" (tVar 4)) (tCons (tXf a cls d (He.ga K "BadNumber") "value" (tVar 4)) tNil)))) (gName 3)))])
  (tRet (tVar 3))))
def t_l_kinds (K : PySem.W.Frag) (E : XK) : TS :=
  (tSeq (tAsg (tLst tNil) (gName 3))
  (tSeq (tTry K (wE E) (fun W => (tDrop (tC1 (sp_l_done K) W (tCons (tVar 0) (tCons (tVar 1) (tCons (tVar 2) tNil)))))) [((.ref (He.ga K "WatchError")), (some 4), fun a cls d => (tSeq (tAsg (tLst (tCons (tCB (rIsXx K cls a d) (tCons (tVar 4) (tCons (tC (.ty "ValueError")) tNil))) (tCons (tCB (rIsXx K cls a d) (tCons (tVar 4) (tCons (tC (.ref (He.ga K "Meets"))) tNil))) (tCons (tCB (rIsXx K cls a d) (tCons (tVar 4) (tCons (tC (.ref (He.ga K "OtherHours"))) tNil))) (tCons (tCB (rIsXx K cls a d) (tCons (tVar 4) (tCons (tC (.ref (He.ga K "NotADivisor"))) tNil))) tNil))))) (gName 3))
  (tAsg (tOp rCat (tVar 3) (tLst (tCons (tCB (rIsXx K cls a d) (tCons (tVar 4) (tCons (tC (.ref (He.ga K "BadNumber"))) tNil))) (tCons (tCB (rIsXx K cls a d) (tCons (tVar 4) (tCons (tC (.ref (He.ga K "RepeatedHour"))) tNil))) tNil)))) (gName 3))))])
  (tRet (tVar 3))))
def t_l_is_lot (K : PySem.W.Frag) (E : XK) : TS :=
  (tSeq (tIfS (tOr (tNot (tB (tCB (rIsi K) (tCons (tVar 0) (tCons (tC (.ref (He.ga K "Lot"))) tNil))))) (tOr (tNot (tB (tC1 (sp_l_same 1 K) (wE E) (tCons (tFldI (He.ga K "Lot") "hours" (tVar 0)) (tCons (tVar 1) tNil))))) (tNot (tB (tC1 (sp_l_same 1 K) (wE E) (tCons (tProp (He.ga K "Lot") (sp_Lot_members K) [] E0 (tVar 0)) (tCons (tVar 2) tNil))))))) (tRet (tC (.bl false))) tNext)
  (tRet (tOp rEq (tCB (rLenI (He.ga K "Lot") (sp_Lot_len K)) (tCons (tVar 0) tNil)) (tCB (rLenQ K) (tCons (tVar 2) tNil)))))
def t_l_agrees (K : PySem.W.Frag) (E : XK) : TS :=
  (tSeq (tAsg (tC1 (sp_l_told K) (wE E) (tCons (tVar 0) (tCons (tVar 1) (tCons (tVar 2) tNil)))) (gName 5))
  (tSeq (tAsg (tC1 (sp_l_kinds K) (wE E) (tCons (tVar 0) (tCons (tVar 1) (tCons (tVar 2) tNil)))) (gName 6))
  (tSeq (tIfS (tB (tCB (rIsi K) (tCons (tVar 4) (tCons (tC (.ty "list")) tNil)))) (tRet (tAndV (tOp (rEqD K) (tVar 6) (tLst tNil)) (tC1 (sp_l_is_lot K) (wE E) (tCons (tVar 5) (tCons (tVar 3) (tCons (tVar 4) tNil)))))) tNext)
  (tSeq (tAsg (tLc (iList K (tLst (tCons (tC (.str "Meets")) (tCons (tC (.str "OtherHours")) (tCons (tC (.str "NotADivisor")) (tCons (tC (.str "BadNumber")) tNil)))))) (gName 8) tYes (tOp rEq (tOp (rIxT K) (tVar 4) (tC (.int 0))) (tVar 8)) [8]) (gName 7))
  (tRet (tAndV (tOp (rEqD K) (tVar 6) (tOp rCat (tOp rCat (tLst (tCons (tC (.bl true)) tNil)) (tVar 7)) (tLst (tCons (tC (.bl false)) tNil)))) (tC1 (sp_l_same 1 K) (wE E) (tCons (tVar 5) (tCons (tVar 4) tNil)))))))))
def t_l_once (K : PySem.W.Frag) (E : XK) : TS :=
  (tSeq (tAsg (tOp rRep (tLst (tCons (tC (.int 0)) tNil)) (tVar 1)) (gName 2))
  (tSeq (tFor (iList K (tVar 0)) (gName 3) (tAsg (tOp rAddI (tOp (rIxL K) (tVar 2) (tVar 3)) (tC (.int 1))) (gSub (tVar 2) (tVar 3) rSetL)))
  (tSeq (tFor (iRng1 (tCons (tVar 1) tNil)) (gName 4) (tIfS (tTest (tOp rGtI (tOp (rIxL K) (tVar 2) (tVar 4)) (tC (.int 1)))) (tRet (tTup (tCons (tC (.str "Meets")) (tCons (tVar 4) tNil)))) tNext))
  (tRet (tLc (iRng1 (tCons (tVar 1) tNil)) (gName 4) (tTest (tOp rEq (tOp (rIxL K) (tVar 2) (tVar 4)) (tC (.int 1)))) (tVar 4) [4])))))
def t_l_sums (K : PySem.W.Frag) (E : XK) : TS :=
  (tSeq (tIfS (tTest (tOp rNe (tVar 2) (tVar 3))) (tRet (tTup (tCons (tC (.str "OtherHours")) tNil))) tNext)
  (tSeq (tAsg (tLst tNil) (gName 4))
  (tSeq (tFor (iList K (tVar 0)) (gName 5) (tDrop (tBM K "list" rExtend (tVar 4) (tCons (tLc (iList K (tVar 1)) (gName 6) tYes (tOp rModN (tCB rInt1 (tCons (tOp rAddI (tVar 5) (tVar 6)) tNil)) (tVar 2)) [6]) tNil))))
  (tRet (tC1 (sp_l_once K) (wE E) (tCons (tVar 4) (tCons (tVar 2) tNil)))))))
def t_l_products (K : PySem.W.Frag) (E : XK) : TS :=
  (tSeq (tAsg (tC1 (sp_l_once K) (wE E) (tCons (tLc (iList K (tVar 1)) (gName 5) tYes (tOp rModN (tCB rInt1 (tCons (tOp rMulW (tVar 5) (tVar 3)) tNil)) (tVar 2)) [5]) (tCons (tVar 2) tNil))) (gName 4))
  (tRet (tAndV (tC1 (sp_l_agrees K) (wE E) (tCons (tVar 0) (tCons (tVar 3) (tCons (tC (.int 0)) (tCons (tVar 2) (tCons (tVar 4) tNil)))))) (tC1 (sp_l_agrees K) (wE E) (tCons (tVar 3) (tCons (tVar 0) (tCons (tC (.int 0)) (tCons (tVar 2) (tCons (tVar 4) tNil)))))))))
def t_l_residues (K : PySem.W.Frag) (E : XK) : TS :=
  (tSeq (tIfS (tOr (tTest (tOp rLtI (tVar 3) (tC (.int 1)))) (tTest (tOp rNe (tOp rModN (tCB rInt1 (tCons (tVar 2) tNil)) (tVar 3)) (tC (.int 0))))) (tRet (tC1 (sp_l_agrees K) (wE E) (tCons (tVar 0) (tCons (tVar 3) (tCons (tC (.int 2)) (tCons (tVar 2) (tCons (tTup (tCons (tC (.str "NotADivisor")) (tCons (tVar 3) tNil))) tNil))))))) tNext)
  (tRet (tC1 (sp_l_agrees K) (wE E) (tCons (tVar 0) (tCons (tVar 3) (tCons (tC (.int 2)) (tCons (tVar 3) (tCons (tC1 (sp_l_once K) (wE E) (tCons (tLc (iList K (tVar 1)) (gName 4) tYes (tOp rModN (tCB rInt1 (tCons (tVar 4) tNil)) (tVar 3)) [4]) (tCons (tVar 3) tNil))) tNil))))))))
def t_l_copied (K : PySem.W.Frag) (E : XK) : TS :=
  (tSeq (tIfS (tTest (tOp rLtI (tVar 3) (tC (.int 1)))) (tRet (tC1 (sp_l_agrees K) (wE E) (tCons (tVar 0) (tCons (tVar 3) (tCons (tC (.int 3)) (tCons (tVar 2) (tCons (tTup (tCons (tC (.str "BadNumber")) (tCons (tC (.str "times")) (tCons (tVar 3) tNil)))) tNil))))))) tNext)
  (tSeq (tIfS (tTest (tOp rGtI (tOp rMulW (tVar 2) (tVar 3)) (tC (.int 360)))) (tRet (tC1 (sp_l_agrees K) (wE E) (tCons (tVar 0) (tCons (tVar 3) (tCons (tC (.int 3)) (tCons (tVar 2) (tCons (tTup (tCons (tC (.str "BadNumber")) (tCons (tC (.str "hours")) (tCons (tOp rMulW (tVar 2) (tVar 3)) tNil)))) tNil))))))) tNext)
  (tSeq (tAsg (tLst tNil) (gName 4))
  (tSeq (tFor (iRng1 (tCons (tVar 3) tNil)) (gName 5) (tAsg (tOp rCat (tVar 4) (tLc (iList K (tVar 1)) (gName 6) tYes (tOp rAddI (tVar 6) (tOp rMulW (tVar 5) (tVar 2))) [6])) (gName 4)))
  (tRet (tC1 (sp_l_agrees K) (wE E) (tCons (tVar 0) (tCons (tVar 3) (tCons (tC (.int 3)) (tCons (tOp rMulW (tVar 2) (tVar 3)) (tCons (tVar 4) tNil)))))))))))
def t_law_11 (K : PySem.W.Frag) (E : XK) : TS :=
  (tSeq (tIfS (tOr (tNot (tB (tC1 (sp_l_products K) (wE E) (tCons (tVar 10) (tCons (tVar 4) (tCons (tVar 2) (tCons (tVar 8) tNil))))))) (tNot (tB (tC1 (sp_l_products K) (wE E) (tCons (tVar 11) (tCons (tVar 5) (tCons (tVar 3) (tCons (tVar 8) tNil)))))))) (tRet (tC (.bl false))) tNext)
  (tSeq (tIfS (tNot (tB (tC1 (sp_l_agrees K) (wE E) (tCons (tVar 10) (tCons (tVar 11) (tCons (tC (.int 1)) (tCons (tVar 2) (tCons (tC1 (sp_l_sums K) (wE E) (tCons (tVar 4) (tCons (tVar 5) (tCons (tVar 2) (tCons (tVar 3) tNil))))) tNil)))))))) (tRet (tC (.bl false))) tNext)
  (tSeq (tIfS (tNot (tB (tC1 (sp_l_agrees K) (wE E) (tCons (tVar 11) (tCons (tVar 10) (tCons (tC (.int 1)) (tCons (tVar 3) (tCons (tC1 (sp_l_sums K) (wE E) (tCons (tVar 5) (tCons (tVar 4) (tCons (tVar 3) (tCons (tVar 2) tNil))))) tNil)))))))) (tRet (tC (.bl false))) tNext)
  (tSeq (tIfS (tOr (tNot (tB (tC1 (sp_l_residues K) (wE E) (tCons (tVar 10) (tCons (tVar 4) (tCons (tVar 2) (tCons (tVar 7) tNil))))))) (tNot (tB (tC1 (sp_l_residues K) (wE E) (tCons (tVar 11) (tCons (tVar 5) (tCons (tVar 3) (tCons (tVar 7) tNil)))))))) (tRet (tC (.bl false))) tNext)
  (tSeq (tIfS (tOr (tNot (tB (tC1 (sp_l_copied K) (wE E) (tCons (tVar 10) (tCons (tVar 4) (tCons (tVar 2) (tCons (tVar 9) tNil))))))) (tNot (tB (tC1 (sp_l_copied K) (wE E) (tCons (tVar 11) (tCons (tVar 5) (tCons (tVar 3) (tCons (tOp rModN (tCB rInt1 (tCons (tVar 9) tNil)) (tC (.int 4))) tNil)))))))) (tRet (tC (.bl false))) tNext)
  (tRet (tAndV (tC1 (sp_l_is_lot K) (wE E) (tCons (tVar 10) (tCons (tVar 2) (tCons (tVar 4) tNil)))) (tC1 (sp_l_is_lot K) (wE E) (tCons (tVar 11) (tCons (tVar 3) (tCons (tVar 5) tNil)))))))))))
def t_law_8 (K : PySem.W.Frag) (E : XK) : TS :=
  (tSeq (tAsg (tC1 (sp_l_numbers K) (wE E) (tCons (tVar 0) (tCons (tVar 2) tNil))) (gTup K 3 (gCons (gName 8) (gCons (gName 7) (gCons (gName 9) gNil)))))
  (tSeq (tAsg (tMk1 (He.ga K "Lot") (sp_Lot_init K) (wE E) (tCons (tVar 2) (tCons (tCB (rListOf K) (tCons (tVar 4) tNil)) tNil))) (gName 10))
  (tSeq (tAsg (tMk1 (He.ga K "Lot") (sp_Lot_init K) (wE E) (tCons (tVar 3) (tCons (tCB (rListOf K) (tCons (tVar 5) tNil)) tNil))) (gName 11))
  (t_law_11 K E))))
def t_law_4 (K : PySem.W.Frag) (E : XK) : TS :=
  (tSeq (tAsg (tC1 (sp_l_drawn_lot K) (wE E) (tCons (tC1 (sp_l_cell K) (wE E) (tCons (tVar 0) (tCons (tC (.int 1)) tNil))) (tCons (tC (.int 26)) (tCons (tVar 2) (tCons (tOp (rIxL K) (tVar 1) (tC (.int 5))) tNil))))) (gName 4))
  (tSeq (tAsg (tC1 (sp_l_drawn_lot K) (wE E) (tCons (tC1 (sp_l_cell K) (wE E) (tCons (tVar 0) (tCons (tC (.int 2)) tNil))) (tCons (tC (.int 40)) (tCons (tVar 3) (tCons (tOp (rIxL K) (tVar 1) (tC (.int 6))) tNil))))) (gName 5))
  (tSeq (tAsg (tC1 (sp_l_divisors K) (wE E) (tCons (tVar 2) tNil)) (gName 6))
  (tSeq (tIfS (tTest (tOp rEq (tOp (rIxL K) (tVar 1) (tC (.int 7))) (tC (.int 1)))) (tSeq (tAsg (tOp (rIxL K) (tVar 6) (tOp rModN (tCB rInt1 (tCons (tOp (rIxL K) (tVar 1) (tC (.int 8))) tNil)) (tCB (rLenQ K) (tCons (tVar 6) tNil)))) (gName 7))
  (tSeq (tAsg (tLc (iList K (tVar 4)) (gName 12) (tTest (tOp rLtI (tVar 12) (tVar 7))) (tVar 12) [12]) (gName 4))
  (tAsg (tLc (iList K (tVar 5)) (gName 12) (tTest (tOp rEq (tOp rModN (tCB rInt1 (tCons (tVar 12) tNil)) (tVar 7)) (tC (.int 0)))) (tVar 12) [12]) (gName 5)))) tNext)
  (t_law_8 K E)))))
def t_law (K : PySem.W.Frag) (E : XK) : TS :=
  (tSeq (tAsg (tC1 (sp_l_draws K) (wE E) (tCons (tC1 (sp_l_cell K) (wE E) (tCons (tVar 0) (tCons (tC (.int 0)) tNil))) (tCons (tC (.int 152)) (tCons (tLst (tCons (tC (.int 8)) (tCons (tC (.int 12)) (tCons (tC (.int 24)) (tCons (tC (.int 360)) (tCons (tC (.int 8)) (tCons (tC (.int 8)) (tCons (tC (.int 8)) (tCons (tC (.int 2)) (tCons (tC (.int 24)) tNil)))))))))) tNil)))) (gName 1))
  (tSeq (tAsg (tOp (rIxL K) (tLst (tCons (tOp rAddI (tC (.int 1)) (tOp (rIxL K) (tVar 1) (tC (.int 3)))) (tCons (tOp rAddI (tC (.int 1)) (tOp (rIxL K) (tVar 1) (tC (.int 2)))) (tCons (tOp rAddI (tC (.int 1)) (tOp (rIxL K) (tVar 1) (tC (.int 2)))) (tCons (tOp rAddI (tC (.int 1)) (tOp (rIxL K) (tVar 1) (tC (.int 1)))) tNil))))) (tCB rMin2 (tCons (tC (.int 3)) (tCons (tOp (rIxL K) (tVar 1) (tC (.int 0))) tNil)))) (gName 2))
  (tSeq (tAsg (tVar 2) (gName 3))
  (tSeq (tIfS (tTest (tOp rEq (tOp (rIxL K) (tVar 1) (tC (.int 4))) (tC (.int 0)))) (tAsg (tOp rAddI (tOp rModN (tCB rInt1 (tCons (tVar 2) tNil)) (tC (.int 360))) (tC (.int 1))) (gName 3)) tNext)
  (t_law_4 K E)))))
end Bw

namespace Bw
open PySem PySem.Spec PyProof.Rows L2
local macro_rules
  | `(tactic| bv_omega) => `(tactic| simp only [L2.start, tSeq, tIfS, tNot, tTest, tChain, tOp, tUn, tC, tVar, rI0, rI, rU, tRet, tAsg, gName, tNext, tRetN, tDrop, tB, tAnd, tOr, tIf, tAndV, tOrV, tNotV, tCB, tC1, tNil, tCons, tFldI, tConI, tYes, tPar, tRse, tMkP, tMkE, wE, WE, tBinI, tBinN, tUnI, tMk1, tM1, tRefI, tTup, tLst, tSl, tNoPart, tPart,
      rIxL, rIxT, rIxS, rLenQ, rLenStr, rAbs, rMin2, rMax2, rListOf, rIsNo, rNotNo, rIsL, rAddS, rCat, rRep, rSetL, rAppend, rExtend, tBM, gSub, gTup, gCons, gNil, iList, iTup, iRng1, iRng2, rEq, rNe,
      List.map_cons, List.map_nil, List.length_cons, List.length_nil, List.replicate_succ, List.replicate_zero, List.cons_append, List.nil_append, List.append_nil, List.set_cons_zero, List.set_cons_succ, List.getElem?_cons_zero, List.getElem?_cons_succ, Nat.reduceAdd, Nat.reduceSub,
      Option.some.injEq, exists_eq_left', V.int.injEq, V.bl.injEq, V.ref.injEq, V.str.injEq, List.cons.injEq, and_true, true_and, exists_and_left, Bool.not_true, Bool.not_false, Bool.false_eq_true, if_false, if_true, reduceIte, decide_eq_true_eq, Bool.not_eq_true', decide_eq_false_iff_not, HO.ins.injEq, HO.lst.injEq, HO.tup.injEq, lot_h, lot_m, L2.wipe, rInt1_int])
theorem pure_hours_checked {K : PySem.W.Frag} (F : KF K) (vs : List V) (H : Hp) (Q : VK) (E : XK) (h : sp_hours_checked K vs H Q E) : t_hours_checked K E { nx := fun _ H' => Q .non H', rt := Q } (start ["hours", "most"] vs) H := by
  obtain ⟨n, m, rfl, h⟩ := h
  unfold t_hours_checked
  bv_omega
  have bad : ¬ (1 ≤ n ∧ n ≤ m) → ok2 [V.str "hours", V.int n] ∧ ∀ d : Addr, H d = none → E (Value.ref (He.ga K "BadNumber")) (some d) (upd H d (HO.xd (fs2 "name" "value" [V.str "hours", V.int n]))) := fun hc => by
    rw [if_neg hc] at h
    exact ⟨⟨"hours", .int n, rfl, by decide⟩, fun d hd => h _ _ (ext_new hd) upd_same⟩
  by_cases h1 : 1 ≤ n
  · rw [if_pos h1]
    by_cases h2 : n ≤ m
    · rw [if_neg (fun z => z h2)]
      rw [if_pos ⟨h1, h2⟩] at h
      exact h
    · rw [if_pos h2]
      exact bad fun z => h2 z.2
  · rw [if_neg h1]
    exact bad fun z => h1 z.1
theorem pure_rings_checked {K : PySem.W.Frag} (F : KF K) (vs : List V) (H : Hp) (Q : VK) (E : XK) (h : sp_rings_checked K vs H Q E) : t_rings_checked K E { nx := fun _ H' => Q .non H', rt := Q } (start ["one", "other"] vs) H := by
  obtain ⟨a, b, n, n', ms, ms', rfl, ⟨o1, dx, lm, e1, m1⟩, ⟨o2, dx', lm', e2, m2⟩, h⟩ := h
  unfold t_rings_checked
  bv_omega
  refine ⟨_, _, e1, _, rfl, _, _, e2, _, rfl, rfl, ?_⟩
  by_cases hn : n = n'
  · rw [if_pos hn] at h
    simpa [hn] using h
  · rw [if_neg hn] at h
    simp only [V.int.injEq, hn, if_true, not_false_eq_true]
    exact h _ (Ext.refl _)
theorem pure_Lot_members {K : PySem.W.Frag} (F : KF K) (vs : List V) (H : Hp) (Q : VK) (E : XK) (h : sp_Lot_members K vs H Q E) : t_Lot_members K E { nx := fun _ H' => Q .non H', rt := Q } (start ["self"] vs) H := by
  obtain ⟨a, n, ms, rfl, ⟨o1, dx, lm, e1, m1⟩, h⟩ := h
  unfold t_Lot_members
  bv_omega
  exact ⟨_, _, e1, _, rfl, lm, rfl, _, .inl (sqL_of m1), fun l hl => h _ _ (ext_new hl) upd_same⟩
theorem pure_Lot_len {K : PySem.W.Frag} (F : KF K) (vs : List V) (H : Hp) (Q : VK) (E : XK) (h : sp_Lot_len K vs H Q E) : t_Lot_len K E { nx := fun _ H' => Q .non H', rt := Q } (start ["self"] vs) H := by
  obtain ⟨a, n, ms, rfl, ⟨o1, dx, lm, e1, m1⟩, h⟩ := h
  unfold t_Lot_len
  bv_omega
  exact ⟨_, _, e1, _, rfl, lm, rfl, _, .inl (sqL_of m1), by rw [List.length_map]; exact h⟩
theorem pure_l_cell {K : PySem.W.Frag} (F : KF K) (vs : List V) (H : Hp) (Q : VK) (E : XK) (h : sp_l_cell K vs H Q E) : t_l_cell K E { nx := fun _ H' => Q .non H', rt := Q } (start ["script", "k"] vs) H := by
  obtain ⟨a, ns, k, rfl, hS, h⟩ := h
  unfold t_l_cell
  bv_omega
  refine ⟨_, .inl hS, ?_⟩
  rw [List.length_map]
  by_cases hk : k < ns.length
  · rw [if_pos (by omega)]
    refine ⟨_, hS, _, ?_, _, rfl, h (if ns[k] < 0 then -ns[k] else ns[k]) ?_⟩
    · unfold atI ixN
      rw [List.length_map, if_pos (by omega), if_pos (by omega)]
      simp [hk]
    · split <;> omega
  · rw [if_neg (by omega)]
    exact h 0 (Int.le_refl _)
theorem pure_l_is_int {K : PySem.W.Frag} (F : KF K) (vs : List V) (H : Hp) (Q : VK) (E : XK) (h : sp_l_is_int K vs H Q E) : t_l_is_int K E { nx := fun _ H' => Q .non H', rt := Q } (start ["x"] vs) H := by
  obtain ⟨i, rfl, h⟩ := h
  unfold t_l_is_int
  bv_omega
  exact ⟨_, _, _, _, true, rfl, .ty _, .base (.int i), rfl, _, rfl, _, _, _, _, false, rfl, .ty _, .base (.int i), rfl, _, rfl, h⟩
theorem pure_each_once {K : PySem.W.Frag} (F : KF K) (vs : List V) (H : Hp) (Q : VK) (E : XK) (h : sp_each_once K vs H Q E) : t_each_once K E { nx := fun _ H' => Q .non H', rt := Q } (start ["residues", "ascending", "at", "residue"] vs) H := by
  obtain ⟨a, rs, rfl, h1, h2, h⟩ := h
  refine ⟨_, rfl, a, rfl, ⟨_, h1⟩, fun D hD => lcF (fI fun i => some i) hD (fun H' x => src_list (sqL_ext x h1)) (by rw [List.length_map, sizeLine_eq]; omega) ?_ ?_⟩
  · intro x hx H' e R N hR hN
    obtain ⟨i, hi, rfl⟩ := mem_mapI hx
    bv_omega
    exact hR _ rfl
  · rw [fm_fI, fm_some, List.map_id']
    refine ⟨D, rs, rfl, sqL_of upd_same, fun ns' p hp hle hn => ?_⟩
    have e := srt_unique hp hle
    subst e
    have hDp : H p = none := fr_of (ext_new hD) hn
    have x0 : Ext H (upd (upd H D (.lst (rs.map V.int))) p (.lst ((srt rs).map V.int))) := ext_set (ext_new hD) hDp
    refine ⟨_, rfl, p, _, rfl, .inl (sqL_of upd_same), 1, ((srt rs).length : Nat), by rw [List.length_map] <;> rfl, by rw [srt_length]; omega, forS (xs := rngV 1 ((srt rs).length - 1 : Int).toNat) (fun i σ H' => H' = upd (upd H D (.lst (rs.map V.int))) p (.lst ((srt rs).map V.int)) ∧ (∃ v, σ = [some (.ref a), some (.ref p), v, none]) ∧ ∀ j, j < i → (srt rs)[j]? ≠ (srt rs)[j + 1]?) ?_ (fun _ _ _ _ _ => src_rng) ?_ ?_⟩
    · exact ⟨rfl, ⟨_, rfl⟩, fun j hj => absurd hj (Nat.not_lt_zero _)⟩
    · rintro i x σ H' e ⟨rfl, ⟨v, rfl⟩, hj⟩
      rw [rngV_get] at e
      by_cases hi : i < ((srt rs).length - 1 : Int).toNat
      · rw [if_pos hi] at e
        cases e
        have b1 : i + 1 < (srt rs).length := by omega
        have g1 : (srt rs)[i]? = some (srt rs)[i] := List.getElem?_eq_getElem _
        have g2 : (srt rs)[i + 1]? = some (srt rs)[i + 1] := List.getElem?_eq_getElem _
        have m1 : ((srt rs).map V.int)[i]? = some (.int (srt rs)[i]) := by rw [List.getElem?_map, g1] <;> rfl
        have m2 : ((srt rs).map V.int)[i + 1]? = some (.int (srt rs)[i + 1]) := by rw [List.getElem?_map, g2] <;> rfl
        bv_omega
        refine ⟨_, sqL_of upd_same, _, atI_nat (k := i + 1) (by omega) m2, _, sqL_of upd_same, _, atI_nat (k := i) (by omega) m1, rfl, ?_⟩
        by_cases heq : (srt rs)[i + 1] = (srt rs)[i]
        · have hr : rep rs = some (srt rs)[i] := adj_some _ i _ hj g1 (by rw [g2, heq])
          rw [hr] at h
          rw [if_pos (by rw [heq])]
          refine ⟨_, sqL_of upd_same, _, atI_nat (k := i + 1) (by omega) m2, ⟨_, rfl⟩, fun d hd => ?_⟩
          refine h _ d (ext_set x0 (fr_of x0 hd)) ?_
          rw [upd_same, heq]
          rfl
        · rw [if_neg (by simpa using heq)]
          refine ⟨⟨_, rfl⟩, fun j hj' => ?_⟩
          by_cases e : j = i
          · subst e
            rw [g1, g2]
            simpa using fun z => heq z.symm
          · exact hj j (by omega)
      · rw [if_neg hi] at e
        cases e
    · rintro σ H' ⟨rfl, ⟨v, rfl⟩, hj⟩
      rw [rngV_len] at hj
      have hr : rep rs = none := adj_none _ fun j hj' => hj j (by omega)
      rw [hr] at h
      exact ⟨_, rfl, h _ _ x0 upd_same⟩
theorem pure_Lot_init {K : PySem.W.Frag} (F : KF K) (vs : List V) (H : Hp) (Q : VK) (E : XK) (h : sp_Lot_init K vs H Q E) : t_Lot_init K E { nx := fun _ H' => Q .non H', rt := Q } (start ["self", "hours", "members", "residues", "member", "residue"] vs) H := by
  obtain ⟨a, dx, l, n, ms, rfl, ha, hl, n1, n2, hlen, hnd, h⟩ := h
  have hlr : (ms.map fun m => m % n).length = ms.length := List.length_map _
  unfold t_Lot_init
  refine ⟨_, rfl, _, rfl, a, dx, [], rfl, ha, rfl, n, 360, rfl, ?_⟩
  rw [if_pos ⟨n1, n2⟩]
  refine ⟨_, rfl, l, rfl, ⟨_, hl⟩, fun D hD => lcF (fI fun i => some (i % n)) hD (fun H' x => src_list (sqL_ext x hl)) (by rw [List.length_map, sizeLine_eq]; omega) ?_ ?_⟩
  · intro x hx H' e R N hR hN
    obtain ⟨i, hi, rfl⟩ := mem_mapI hx
    bv_omega
    refine ⟨by omega, ?_⟩
    rw [fmod_pos n1]
    exact hR _ rfl
  · rw [fm_fI, fm_some]
    have aD : a ≠ D := ne_of_none ha hD
    refine ⟨_, rfl, D, _, rfl, sqL_of upd_same, hnd, by omega, ?_⟩
    bv_omega
    refine ⟨_, .inl (sqL_of upd_same), ?_⟩
    simp only [List.length_map]
    rw [if_neg (by omega)]
    refine ⟨_, rfl, _, rfl, a, dx, [], rfl, by rw [upd_ne aD]; exact ha, by decide, ?_⟩
    have hg : upd (upd H D (.lst (List.map V.int (ms.map fun m => m % n)))) a (.ins (He.ga K "Lot") dx (putF "hours" (.int n) [])) D = some (.lst (List.map V.int (ms.map fun m => m % n))) := by
      rw [upd_ne (Ne.symm aD), upd_same]
    unfold sFldI
    refine ⟨_, rfl, D, rfl, ⟨_, sqL_of hg⟩, fun D2 hD2 => lcF (fI fun i => some i) hD2 (fun H' x => src_list (sqL_ext x (sqL_of hg))) (by rw [List.length_map, sizeLine_eq]; omega) ?_ ?_⟩
    · intro x hx H' e R N hR hN
      obtain ⟨i, hi, rfl⟩ := mem_mapI hx
      bv_omega
      exact hR _ rfl
    · rw [fm_fI, fm_some, List.map_id']
      refine ⟨D2, _, rfl, sqL_of upd_same, fun ns' p hp hle hn => ?_⟩
      have e := srt_unique hp hle
      subst e
      have hD2' := fr_of (ext_new hD2) hn
      have aD2 : a ≠ D2 := fun z => by rw [← z, upd_same] at hD2; cases hD2
      have ap : a ≠ p := fun z => by rw [← z, upd_same] at hD2'; cases hD2'
      refine ⟨_, rfl, a, dx, _, rfl, by rw [upd_ne ap, upd_ne aD2, upd_same], by show 1 < 1000; decide, ?_⟩
      refine h _ p (fun b o hb e => ?_) upd_same ?_
      · have bD : b ≠ D := ne_of_none e hD
        have e2 : upd (upd H D (.lst (List.map V.int (ms.map fun m => m % n)))) a (.ins (He.ga K "Lot") dx (putF "hours" (.int n) [])) b = some o := by rw [upd_ne hb, upd_ne bD]; exact e
        rw [upd_ne hb, upd_ne (ne_of_none e2 hD2'), upd_ne (ne_of_none e2 hD2)]
        exact e2
      · rw [upd_ne (Ne.symm ap), upd_same]
theorem lot_mulW {n m f : Int} (n2 : n ≤ 360) (hm : 0 ≤ m ∧ m < n) (hf : f.natAbs < 2 ^ 400) : CMulW m f := wide_mul (a := 10) (b := 400) (by omega) hf (by decide) (by decide) (by decide)
theorem pure_Lot_mul {K : PySem.W.Frag} (F : KF K) (vs : List V) (H : Hp) (Q : VK) (E : XK) (h : sp_Lot_mul K vs H Q E) : t_Lot_mul K E { nx := fun _ H' => Q .non H', rt := Q } (start ["self", "factor", "member"] vs) H := by
  obtain ⟨a, n, f, ms, rfl, ⟨ok, dx, lm, e1, m1⟩, hf, h⟩ := h
  refine ⟨_, rfl, a, dx, _, _, rfl, e1, lot_h n lm, _, rfl, a, dx, _, _, rfl, e1, lot_m n lm, lm, rfl, ⟨_, sqL_of m1⟩, fun D hD => lcF (fI fun i => some ((i * f) % n)) hD (fun H' x => src_list (sqL_ext x (sqL_of m1))) (by have := ok.len; rw [List.length_map, sizeLine_eq]; omega) ?_ ?_⟩
  · intro x hx H' e R N hR hN
    obtain ⟨i, hi, rfl⟩ := mem_mapI hx
    bv_omega
    refine ⟨lot_mulW ok.n2 (ok.rng i hi) hf, _, _, e _ _ e1, _, rfl, n, rfl, by have := ok.n1; omega, ?_⟩
    rw [fmod_pos ok.n1]
    exact hR _ rfl
  · rw [fm_fI, fm_some]
    exact once_mk (sqL_of upd_same) ok.n1 ok.n2 (by have := ok.len; rw [List.length_map]; omega) (fun r hr => by obtain ⟨k, _, rfl⟩ := List.mem_map.mp hr; exact emod_rng ok.n1 _) (h.ext (ext_new hD))
theorem pure_Lot_rmul {K : PySem.W.Frag} (F : KF K) (vs : List V) (H : Hp) (Q : VK) (E : XK) (h : sp_Lot_rmul K vs H Q E) : t_Lot_rmul K E { nx := fun _ H' => Q .non H', rt := Q } (start ["self", "factor"] vs) H := by
  obtain ⟨a, n, f, ms, rfl, L, hf, h⟩ := h
  obtain ⟨ok, dx, lm, e1, m1⟩ := id L
  exact ⟨_, rfl, _, rfl, a, dx, _, f, rfl, e1, rfl, a, n, f, ms, rfl, L, hf, h⟩
theorem pure_Lot_add {K : PySem.W.Frag} (F : KF K) (vs : List V) (H : Hp) (Q : VK) (E : XK) (h : sp_Lot_add K vs H Q E) : t_Lot_add K E { nx := fun _ H' => Q .non H', rt := Q } (start ["self", "other", "sums", "one", "two"] vs) H := by
  obtain ⟨a, b, n, n', ms, ms', rfl, L, L', h⟩ := h
  refine ⟨_, rfl, _, rfl, a, b, n, n', ms, ms', rfl, L, L', ?_⟩
  unfold addOut at h
  by_cases hn : n = n'
  · rw [if_pos hn] at h ⊢
    obtain ⟨ok, dx, lm, e1, m1⟩ := L
    obtain ⟨ok', dx', lm', e1', m1'⟩ := L'
    refine ⟨_, rfl, a, dx, _, _, rfl, e1, lot_m n lm, lm, rfl, ⟨_, sqL_of m1⟩, fun D hD => lc2F (b := 360) (by decide) (fun _ => ms'.map V.int) (fun x y => match x with | .int i => fI (fun j => some ((i + j) % n)) y | _ => none) hD (fun H' x => src_list (sqL_ext x (sqL_of m1))) (fun _ _ => by rw [List.length_map]; exact ok'.len) (by have := ok.len; rw [List.length_map, sizeLine_eq]; omega) ?_ ?_ ?_⟩
    · intro x hx H' e R hR
      bv_omega
      exact ⟨_, _, e _ _ e1', _, rfl, lm', rfl, ⟨_, sqL_of (e _ _ m1')⟩, hR _ fun H2 x2 => src_list (sqL_ext x2 (sqL_of m1'))⟩
    · intro x hx y hy H' e R N hR hN
      obtain ⟨i, hi, rfl⟩ := mem_mapI hx
      obtain ⟨j, hj, rfl⟩ := mem_mapI hy
      bv_omega
      refine ⟨_, _, e _ _ e1, _, rfl, n, rfl, by have := ok.n1; omega, ?_⟩
      rw [fmod_pos ok.n1]
      exact hR _ rfl
    · have el : ((ms.map V.int).flatMap fun x => (ms'.map V.int).filterMap fun y => match x with | .int i => fI (fun j => some ((i + j) % n)) y | _ => none) = (ms.flatMap fun a => ms'.map fun b => (a + b) % n).map V.int := by
        rw [List.flatMap_map, List.map_flatMap]
        refine congrArg (fun g => ms.flatMap g) (funext fun i => ?_)
        show (ms'.map V.int).filterMap (fI fun j => some ((i + j) % n)) = _
        rw [fm_fI, fm_some]
      rw [el]
      refine ⟨_, rfl, a, dx, _, _, rfl, ext_new hD _ _ e1, lot_h n lm, _, rfl, ?_⟩
      refine once_mk (sqL_of upd_same) ok.n1 ok.n2 ?_ (fun r hr => ?_) (h.ext (ext_new hD))
      · have := fl_len (F := fun a => ms'.map fun b => (a + b) % n) (xs := ms) (b := 360) fun x _ => by rw [List.length_map]; exact ok'.len
        have := ok.len
        omega
      · obtain ⟨i, _, hr⟩ := List.mem_flatMap.mp hr
        obtain ⟨k, _, rfl⟩ := List.mem_map.mp hr
        exact emod_rng ok.n1 _
  · rw [if_neg hn] at h ⊢
    exact h
theorem pure_Lot_mod {K : PySem.W.Frag} (F : KF K) (vs : List V) (H : Hp) (Q : VK) (E : XK) (h : sp_Lot_mod K vs H Q E) : t_Lot_mod K E { nx := fun _ H' => Q .non H', rt := Q } (start ["self", "number", "member"] vs) H := by
  obtain ⟨a, n, m, ms, rfl, ⟨ok, dx, lm, e1, m1⟩, h⟩ := h
  unfold modOut at h
  have bad : m < 1 ∨ n % m ≠ 0 → ok1 [V.int m] ∧ ∀ d : Addr, H d = none → E (Value.ref (He.ga K "NotADivisor")) (some d) (upd H d (HO.xd (fs1 "number" [V.int m]))) := fun hc => by
    rw [if_pos hc] at h
    exact ⟨⟨_, rfl⟩, fun d hd => h _ _ (ext_new hd) upd_same⟩
  unfold t_Lot_mod
  bv_omega
  by_cases h1 : m < 1
  · rw [if_pos h1]
    simpa using bad (.inl h1)
  · rw [if_neg h1]
    refine ⟨_, _, e1, _, rfl, n, rfl, by omega, rfl, ?_⟩
    rw [fmod_pos (by omega)]
    by_cases h2 : n % m = 0
    · rw [if_neg (by omega)] at h
      rw [if_neg (by simpa using h2)]
      have hmn : m ≤ n := Int.le_of_dvd (by have := ok.n1; omega) (Int.dvd_of_emod_eq_zero h2)
      refine ⟨_, rfl, a, dx, _, _, rfl, e1, lot_m n lm, lm, rfl, ⟨_, sqL_of m1⟩, fun D hD => lcF (fI fun i => some (i % m)) hD (fun H' x => src_list (sqL_ext x (sqL_of m1))) (by have := ok.len; rw [List.length_map, sizeLine_eq]; omega) ?_ ?_⟩
      · intro x hx H' e R N hR hN
        obtain ⟨i, hi, rfl⟩ := mem_mapI hx
        bv_omega
        refine ⟨by omega, ?_⟩
        rw [fmod_pos (by omega)]
        exact hR _ rfl
      · rw [fm_fI, fm_some]
        exact once_mk (sqL_of upd_same) (by omega) (by have := ok.n2; omega) (by have := ok.len; rw [List.length_map]; omega) (fun r hr => by obtain ⟨k, _, rfl⟩ := List.mem_map.mp hr; exact emod_rng (by omega) _) (h.ext (ext_new hD))
    · rw [if_pos (by simpa using h2)]
      exact bad (.inr h2)
theorem pure_Lot_pow {K : PySem.W.Frag} (F : KF K) (vs : List V) (H : Hp) (Q : VK) (E : XK) (h : sp_Lot_pow K vs H Q E) : t_Lot_pow K E { nx := fun _ H' => Q .non H', rt := Q } (start ["self", "times", "copies", "lap", "member"] vs) H := by
  obtain ⟨a, n, t, ms, rfl, ⟨ok, dx, lm, e1, m1⟩, t9, h⟩ := h
  unfold powOut at h
  have ok1' := ok.n1
  have ok2' := ok.n2
  by_cases ht : t < 1
  · rw [if_pos ht] at h
    unfold t_Lot_pow
    bv_omega
    rw [if_pos ht]
    exact ⟨⟨_, _, rfl, by decide⟩, fun d hd => h _ _ (ext_new hd) upd_same⟩
  · rw [if_neg ht] at h
    have wm : CMulW n t := wide_mul (a := 10) (b := 400) (by omega) (by omega) (by decide) (by decide) (by decide)
    unfold t_Lot_pow
    refine ⟨_, rfl, _, _, rfl, rfl, _, rfl, ?_⟩
    dsimp only
    rw [if_neg (by simpa using ht)]
    refine ⟨_, rfl, a, dx, _, _, rfl, e1, lot_h n lm, _, rfl, n, t, rfl, rfl, wm, _, rfl, a, dx, _, rfl, e1, rfl, n * t, 360, rfl, ?_⟩
    have p1 : 1 ≤ n * t := by
      have : 0 < n * t := Int.mul_pos (by omega) (by omega)
      omega
    by_cases hb : 360 < n * t
    · rw [if_pos hb] at h
      rw [if_neg (by omega)]
      exact h
    · rw [if_neg hb] at h
      rw [if_pos ⟨p1, by omega⟩]
      refine ⟨_, rfl, t, rfl, by omega, by omega, fun D hD => lc2F (b := 360) (by decide) (fun _ => ms.map V.int) (fun x y => match x with | .int i => fI (fun j => some (j + i * n)) y | _ => none) hD (fun H' x => src_rng) (fun _ _ => by rw [List.length_map]; exact ok.len) (by rw [rngV_len, sizeLine_eq]; omega) ?_ ?_ ?_⟩
      · intro x hx H' e R hR
        bv_omega
        exact ⟨_, _, e _ _ e1, _, rfl, lm, rfl, ⟨_, sqL_of (e _ _ m1)⟩, hR _ fun H2 x2 => src_list (sqL_ext x2 (sqL_of m1))⟩
      · intro x hx y hy H' e R N hR hN
        obtain ⟨i, hi, rfl⟩ := List.mem_map.mp hx
        obtain ⟨j, hj, rfl⟩ := mem_mapI hy
        have hi := List.mem_range.mp hi
        bv_omega
        refine ⟨_, _, e _ _ e1, _, rfl, n, rfl, wide_mul (a := 20) (b := 10) (by omega) (by omega) (by decide) (by decide) (by decide), ?_⟩
        exact hR _ rfl
      · have el : ((rngV 0 t.toNat).flatMap fun x => (ms.map V.int).filterMap fun y => match x with | .int i => fI (fun j => some (j + i * n)) y | _ => none) = (copies n ms t).map V.int := by
          unfold rngV copies
          rw [List.flatMap_map, List.map_flatMap]
          refine congrArg (fun g => (List.range t.toNat).flatMap g) (funext fun i => ?_)
          show (ms.map V.int).filterMap (fI fun j => some (j + (0 + (i : Int)) * n)) = _
          rw [fm_fI, fm_some, Int.zero_add]
        rw [el]
        have em : (copies n ms t).map (fun m => m % (n * t)) = copies n ms t := mod_id (copies_rng ok.rng ok1' (by omega))
        refine ⟨_, rfl, a, dx, _, _, rfl, ext_new hD _ _ e1, lot_h n lm, _, rfl, n, t, rfl, rfl, wm, _, rfl, ?_⟩
        refine made_lot (sqL_of upd_same) p1 (by omega) (by have := copies_len ok (t := t) (by omega) (by omega); omega) (by rw [em]; exact lt_nodup (copies_asc ok.rng ok1' ok.asc)) fun H3 a x1 L => h H3 a ((ext_new hD).trans x1) ?_
        rw [em, srt_of_le (lt_le (copies_asc ok.rng ok1' ok.asc))] at L
        exact L
theorem pure_l_draws {K : PySem.W.Frag} (F : KF K) (vs : List V) (H : Hp) (Q : VK) (E : XK) (h : sp_l_draws K vs H Q E) : t_l_draws K E { nx := fun _ H' => Q .non H', rt := Q } (start ["cell", "salt", "menu", "found", "rest", "mixed", "k"] vs) H := by
  obtain ⟨c, s, a, ms, rfl, c0, s0, s1, hS, hlen, hm, h⟩ := h
  refine ⟨Nat.zero_le _, fun p hp => ?_⟩
  refine ⟨_, rfl, _, _, rfl, rfl, ⟨by decide, by decide, by decide⟩, _, _, rfl, rfl, ?_⟩
  refine ⟨_, rfl, _, rfl, _, _, rfl, rfl, cmulW (by decide) (by omega), _, _, rfl, rfl, ?_⟩
  have x0 : Ext H (upd H p (.lst [])) := ext_new hp
  refine ⟨_, rfl, a, _, rfl, .inl (sqL_ext x0 hS), (ms.length : Nat), by rw [List.length_map] <;> rfl, by omega, by omega, forS (xs := rngV 0 (ms.length : Int).toNat) (fun i σ H' => i ≤ ms.length ∧ ∃ (rest mixed : Int) (v : Option V) (ws : List Int), σ = [some (.int c), some (.int s), some (.ref a), some (.ref p), some (.int rest), some (.int mixed), v] ∧ Ext H H' ∧ H' p = some (.lst (ws.map V.int)) ∧ ws.length = i ∧
      (∀ (k : Nat) (w m : Int), ws[k]? = some w → ms[k]? = some m → 0 ≤ w ∧ w < m) ∧ (rest < 0 → 0 ≤ mixed ∧ mixed < 2 ^ 100)) ?_ (fun _ _ _ _ _ => src_rng) ?_ ?_⟩
  · refine ⟨Nat.zero_le _, _, _, _, [], rfl, x0, upd_same, rfl, fun k w m h => by simp at h, fun hr => ?_⟩
    have : c < 10 ^ 18 := by have : c - 10 ^ (Int.toNat 18) < 0 := hr; have e : (10 : Int) ^ (Int.toNat 18) = 10 ^ 18 := rfl; omega
    constructor <;> omega
  · rintro i x σ H' e ⟨hi, rest, mixed, v, ws, rfl, x1, hp1, hw, hb, hr⟩
    rw [rngV_get] at e
    by_cases hi' : i < (ms.length : Int).toNat
    · rw [if_pos hi'] at e
      cases e
      have hi2 : i < ms.length := by omega
      have gm : ms[i]? = some ms[i] := List.getElem?_eq_getElem _
      have bm := hm _ (List.getElem_mem hi2)
      have at1 : atI (ms.map V.int) (0 + (i : Int)) = some (.int ms[i]) := atI_nat (k := i) (by omega) (map_get gm)
      have nw : ∀ (w : Int), 0 ≤ w → w < ms[i] → ∀ (k : Nat) (w' m : Int), (ws ++ [w])[k]? = some w' → ms[k]? = some m → 0 ≤ w' ∧ w' < m := fun w w0 w1 k w' m h1 h2 => by
        by_cases hk : k < ws.length
        · rw [List.getElem?_append_left hk] at h1
          exact hb k w' m h1 h2
        · rw [List.getElem?_append_right (by omega)] at h1
          have hk2 : k = i := by
            have := (List.getElem?_eq_some_iff.mp h1).1
            simp at this
            omega
          subst hk2
          rw [hw, Nat.sub_self] at h1
          cases h1
          rw [gm] at h2
          cases h2
          exact ⟨w0, w1⟩
      bv_omega
      by_cases hrest : 0 ≤ rest
      · rw [if_pos hrest]
        refine ⟨tyL hp1, _, sqL_ext x1 hS, _, at1, _, rfl, by omega, _, hp1, by rw [List.length_map, sizeLine_eq]; omega, _, sqL_ext (ext_set x1 hp) hS, _, at1, _, rfl, cdivW bm, hi2, ?_⟩
        rw [fmod_pos bm.1]
        refine ⟨_, _, _, ⟨rfl, rfl, rfl⟩, ext_set x1 hp, ws ++ [rest % ms[i]], by rw [upd_same, List.map_append]; rfl, by rw [List.length_append, hw]; rfl, nw _ (emod_rng bm.1 _).1 (emod_rng bm.1 _).2, fun h => ?_⟩
        have := Int.ediv_nonneg hrest (show 0 ≤ ms[i] by omega)
        omega
      · rw [if_neg hrest]
        have hx := hr (by omega)
        have h2 : ∀ z : Int, z.fmod 2147483399 = z % 2147483399 := fun z => fmod_pos (by decide) z
        have h3 : ∀ z : Int, z.fmod 2147483629 = z % 2147483629 := fun z => fmod_pos (by decide) z
        refine ⟨cmulW (by omega) (by omega), cmulW (by decide) (by omega), by decide, ?_⟩
        rw [h2]
        have b2 := emod_rng (n := 2147483399) (by decide) (mixed * mixed + 3571 * (0 + (i : Int) + 1) + 40692)
        refine ⟨cmulW (by omega) (by omega), ⟨by decide, by decide⟩, by decide, ?_⟩
        rw [h3]
        refine ⟨tyL hp1, ⟨by decide, by decide⟩, _, sqL_ext x1 hS, _, at1, _, rfl, by omega, _, hp1, by rw [List.length_map, sizeLine_eq]; omega, hi2, ?_⟩
        rw [fmod_pos bm.1]
        generalize hz : ((mixed * mixed + 3571 * (0 + (i : Int) + 1) + 40692) % 2147483399 * ((mixed * mixed + 3571 * (0 + (i : Int) + 1) + 40692) % 2147483399) + (mixed * mixed + 3571 * (0 + (i : Int) + 1) + 40692) % 2147483399 / 97) % 2147483629 = z
        have b3 : 0 ≤ z ∧ z < 2147483629 := by rw [← hz]; exact emod_rng (by decide) _
        refine ⟨_, _, _, ⟨rfl, rfl, rfl⟩, ext_set x1 hp, ws ++ [(z / 8) % ms[i]], by rw [upd_same, List.map_append]; rfl, by rw [List.length_append, hw]; rfl, nw _ (emod_rng bm.1 _).1 (emod_rng bm.1 _).2, fun _ => ⟨b3.1, by omega⟩⟩
    · rw [if_neg hi'] at e
      cases e
  · rintro σ H' ⟨hi, rest, mixed, v, ws, rfl, x1, hp1, hw, hb, hr⟩
    rw [rngV_len] at hw
    exact ⟨_, rfl, h H' p ws x1 hp hp1 (by omega) hb⟩
theorem pure_l_digits {K : PySem.W.Frag} (F : KF K) (vs : List V) (H : Hp) (Q : VK) (E : XK) (h : sp_l_digits K vs H Q E) : t_l_digits K E { nx := fun _ H' => Q .non H', rt := Q } (start ["cell", "salt", "number", "piece"] vs) H := by
  obtain ⟨c, s, rfl, c0, s0, s1, h⟩ := h
  refine ⟨_, rfl, _, rfl, _, _, rfl, rfl, ⟨by decide, by decide, by decide⟩, by decide, fun p hp => ⟨p, 6, _, rfl, rfl, upd_same, by decide, by decide, by decide, fun q hq => ?_⟩⟩
  have hq0 : H q = none := fr_of (ext_new hp) hq
  refine ⟨c, s, q, List.replicate 6 (10 ^ 10), rfl, c0, s0, s1, sqL_of (by rw [upd_same]; rfl), by decide, fun m hm => by rw [List.eq_of_mem_replicate hm]; decide, fun H1 r ws x1 _ hr hl hb => ?_⟩
  have x0 : Ext H H1 := (ext_set (ext_new hp) hq0).trans x1
  refine ⟨r, rfl, ⟨_, sqL_of hr⟩, forS (fun i σ H' => H' = H1 ∧ ∃ (n : Int) (v : Option V), σ = [some (.int c), some (.int s), some (.int n), v] ∧ 0 ≤ n ∧ n < 10 ^ (10 * i)) ⟨rfl, 0, _, rfl, by decide, by decide⟩ (fun i σ H' _ e => by rw [e.1]; exact src_list (sqL_of hr)) ?_ ?_⟩
  · rintro i x σ H' e ⟨rfl, n, v, rfl, n0, n1⟩
    rw [List.getElem?_map] at e
    cases hw : ws[i]? with
    | none => rw [hw] at e; cases e
    | some w =>
      rw [hw] at e
      cases e
      have hi : i < 6 := by have := (List.getElem?_eq_some_iff.mp hw).1; rw [hl] at this; exact this
      have gm : (List.replicate 6 ((10 : Int) ^ 10))[i]? = some (10 ^ 10) := by rw [List.getElem?_replicate, if_pos hi]
      have b := hb i w _ hw gm
      have e10 : ((10 : Int) ^ 10).natAbs < 2 ^ 200 := by decide
      have n2 : n < 10 ^ 60 := Int.lt_of_lt_of_le n1 ((by decide : ∀ i : Nat, i < 6 → (10 : Int) ^ (10 * i) ≤ 10 ^ 60) i hi)
      bv_omega
      refine ⟨⟨by decide, by decide, by decide⟩, cmulW (by omega) e10, _, _, ⟨rfl, rfl⟩, ?_, ?_⟩
      · have : 0 ≤ n * 10 ^ (Int.toNat 10) := Int.mul_nonneg n0 (by decide)
        omega
      · have e1 : (10 : Int) ^ (10 * (i + 1)) = 10 ^ (10 * i) * 10 ^ 10 := by rw [Nat.mul_add, Int.pow_add]
        have e2 : (10 : Int) ^ (Int.toNat 10) = 10 ^ 10 := rfl
        rw [e1, e2]
        have : (n + 1) * 10 ^ 10 ≤ 10 ^ (10 * i) * 10 ^ 10 := Int.mul_le_mul_of_nonneg_right (by omega) (by decide)
        omega
  · rintro σ H' ⟨rfl, n, v, rfl, n0, n1⟩
    rw [List.length_map, hl] at n1
    exact ⟨_, rfl, h _ n x0 n0 n1⟩
theorem rising_push {n m : Int} {ms : List Int} (h : Rising m ms) (m0 : 0 ≤ m) (hm : m < n) : Rising n (ms ++ [m]) := by
  refine ⟨List.pairwise_append.mpr ⟨h.1, List.pairwise_singleton _ _, fun x hx y hy => ?_⟩, fun x hx => ?_⟩
  · rw [List.mem_singleton.mp hy]
    exact (h.2 x hx).2
  · rcases List.mem_append.mp hx with hx | hx
    · have := h.2 x hx
      omega
    · rw [List.mem_singleton.mp hx]
      exact ⟨m0, hm⟩
theorem rising_mono {n m : Int} {ms : List Int} (h : Rising m ms) (hm : m ≤ n) : Rising n ms := ⟨h.1, fun x hx => by have := h.2 x hx; omega⟩
theorem rising_len {n : Int} {ms : List Int} (h : Rising n ms) : ms.length ≤ n.toNat := by
  have := asc_len ms 0 n h.1 h.2
  omega
theorem pure_l_bits {K : PySem.W.Frag} (F : KF K) (vs : List V) (H : Hp) (Q : VK) (E : XK) (h : sp_l_bits K vs H Q E) : t_l_bits K E { nx := fun _ H' => Q .non H', rt := Q } (start ["n", "number", "found", "h"] vs) H := by
  obtain ⟨n, b, rfl, n0, n1, h⟩ := h
  refine ⟨Nat.zero_le _, fun p hp => ?_⟩
  refine ⟨_, rfl, n, rfl, by omega, by omega, forS (xs := rngV 0 n.toNat) (fun i σ H' => ∃ (b : Int) (v : Option V) (ms : List Int), σ = [some (.int n), some (.int b), some (.ref p), v] ∧ Ext H H' ∧ H' p = some (.lst (ms.map V.int)) ∧ Rising i ms) ⟨_, _, [], rfl, ext_new hp, upd_same, .nil, fun m hm => by cases hm⟩ (fun _ _ _ _ _ => src_rng) ?_ ?_⟩
  · rintro i x σ H' e ⟨b, v, ms, rfl, x1, hp1, hr⟩
    rw [rngV_get] at e
    by_cases hi : i < n.toNat
    · rw [if_pos hi] at e
      cases e
      have hlen := rising_len hr
      bv_omega
      refine ⟨by decide, rfl, ?_⟩
      by_cases h1 : b.fmod 2 = 1
      · rw [if_pos h1]
        refine ⟨tyL hp1, _, hp1, by rw [List.length_map, sizeLine_eq]; omega, cdivW (by decide), _, _, ⟨rfl, rfl⟩, ext_set x1 hp, ms ++ [(i : Int)], by rw [upd_same, List.map_append, Int.zero_add]; rfl, ?_⟩
        exact rising_push hr (by omega) (by omega)
      · rw [if_neg h1]
        exact ⟨cdivW (by decide), _, _, ⟨rfl, rfl⟩, x1, ms, hp1, rising_mono hr (by omega)⟩
    · rw [if_neg hi] at e
      cases e
  · rintro σ H' ⟨b, v, ms, rfl, x1, hp1, hr⟩
    rw [rngV_len] at hr
    exact ⟨_, rfl, h H' p ms x1 hp hp1 (rising_mono hr (by omega))⟩
theorem pure_l_subset {K : PySem.W.Frag} (F : KF K) (vs : List V) (H : Hp) (Q : VK) (E : XK) (h : sp_l_subset K vs H Q E) : t_l_subset K E { nx := fun _ H' => Q .non H', rt := Q } (start ["cell", "salt", "n", "found", "pieces", "k", "h"] vs) H := by
  obtain ⟨c, s, n, rfl, c0, s0, s1, n0, n1, h⟩ := h
  refine ⟨Nat.zero_le _, fun p hp => ?_⟩
  refine ⟨_, rfl, _, rfl, _, _, rfl, rfl, ⟨by decide, by decide, by decide⟩, by decide, fun q hq => ?_⟩
  refine ⟨_, rfl, _, _, rfl, rfl, _, _, rfl, rfl, cdivW (by decide), _, _, rfl, rfl, q, _, _, rfl, rfl, upd_same, by omega, by omega, by show 1 * _ ≤ sizeLine; rw [sizeLine_eq]; omega, fun q2 hq2 => ?_⟩
  have q0 : H q = none := fr_of (ext_new hp) hq
  have x1 : Ext H (upd (upd H p (.lst [])) q (.lst [.int (2 ^ (Int.toNat 25))])) := ext_set (ext_new hp) q0
  have q20 : H q2 = none := fr_of x1 hq2
  have pq : p ≠ q := fun z => by rw [← z, upd_same] at hq; cases hq
  have pq2 : p ≠ q2 := fun z => by rw [← z, upd_ne pq, upd_same] at hq2; cases hq2
  refine ⟨c, s, q2, List.replicate (1 + (n - 1) / 25).toNat (2 ^ 25), rfl, c0, s0, s1, sqL_of (by rw [upd_same, ← rep_ints]; rfl), by rw [List.length_replicate]; omega, fun m hm => by rw [List.eq_of_mem_replicate hm]; decide, fun H1 r ws x2 _ hr hl hb => ?_⟩
  rw [List.length_replicate] at hl
  have x0 : Ext H H1 := (ext_set x1 q20).trans x2
  have hp1 : H1 p = some (.lst []) := x2 _ _ (by rw [upd_ne pq2, upd_ne pq, upd_same])
  refine ⟨_, rfl, r, _, rfl, .inl (sqL_of hr), (ws.length : Nat), by rw [List.length_map] <;> rfl, by omega, by omega, forS (xs := rngV 0 (ws.length : Int).toNat) (fun i σ H' => i ≤ ws.length ∧ ∃ (f : Addr) (v : Option V) (ms : List Int), σ = [some (.int c), some (.int s), some (.int n), some (.ref f), some (.ref r), v, none] ∧ Ext H1 H' ∧ H f = none ∧ H' f = some (.lst (ms.map V.int)) ∧ Rising n ms ∧ Rising (25 * i) ms)
    ⟨Nat.zero_le _, p, _, [], rfl, Ext.refl _, hp, hp1, ⟨.nil, fun m hm => by cases hm⟩, ⟨.nil, fun m hm => by cases hm⟩⟩ (fun _ _ _ _ _ => src_rng) ?_ ?_⟩
  · rintro i x σ H' e ⟨hi, f, v, ms, rfl, x3, hf, hf1, hr1, hr2⟩
    rw [rngV_get] at e
    by_cases hi2 : i < (ws.length : Int).toNat
    · rw [if_pos hi2] at e
      cases e
      have gw : ws[i]? = some (ws[i]'(by omega)) := List.getElem?_eq_getElem _
      refine ⟨_, rfl, _, rfl, _, rfl, r, _, _, _, rfl, rfl, sqL_of (x3 _ _ hr), atI_nat (k := i) (by omega) (map_get gw), 25, _, rfl, by decide, by decide, fun H2 g bs x4 _ hg hbs => ?_⟩
      refine ⟨g, rfl, ⟨_, sqL_of hg⟩, fun D hD => lcF (fI fun j => if 25 * (i : Int) + j < n then some (25 * (i : Int) + j) else none) hD (fun H3 x5 => src_list (sqL_ext x5 (sqL_of hg))) (by have := rising_len hbs; rw [List.length_map, sizeLine_eq]; omega) ?_ ?_⟩
      · intro x hx H3 e R N hR hN
        obtain ⟨j, hj, rfl⟩ := mem_mapI hx
        have := hbs.2 j hj
        bv_omega
        refine ⟨cmulW (by decide) (by omega), ?_⟩
        rw [Int.zero_add]
        by_cases hc : 25 * (i : Int) + j < n
        · rw [if_pos hc]
          exact ⟨cmulW (by decide) (by omega), hR _ (by show Option.map V.int (if _ then _ else _) = _; rw [if_pos hc]; rfl)⟩
        · rw [if_neg hc]
          exact hN (by show Option.map V.int (if _ then _ else _) = _; rw [if_neg hc]; rfl)
      · rw [fm_fI]
        have fD : f ≠ D := ne_of_none (x4 _ _ hf1) hD
        have hbl := rising_len hbs
        have hml := rising_len hr1
        have hfl := fm_len (fun j => if 25 * (i : Int) + j < n then some (25 * (i : Int) + j) else none) bs
        have mem : ∀ y ∈ bs.filterMap (fun j => if 25 * (i : Int) + j < n then some (25 * (i : Int) + j) else none), ∃ j ∈ bs, y = 25 * (i : Int) + j ∧ 25 * (i : Int) + j < n := fun y hy => by
          obtain ⟨j, hj, e⟩ := List.mem_filterMap.mp hy
          by_cases hc : 25 * (i : Int) + j < n
          · rw [if_pos hc] at e
            cases e
            exact ⟨j, hj, rfl, hc⟩
          · rw [if_neg hc] at e
            cases e
        have asc : (bs.filterMap fun j => if 25 * (i : Int) + j < n then some (25 * (i : Int) + j) else none).Pairwise (· < ·) := by
          refine List.pairwise_filterMap.mpr (hbs.1.imp fun {a b} hab x hx y hy => ?_)
          by_cases ha : 25 * (i : Int) + a < n
          · by_cases hb : 25 * (i : Int) + b < n
            · rw [if_pos ha] at hx
              rw [if_pos hb] at hy
              cases hx
              cases hy
              omega
            · rw [if_neg hb] at hy
              cases hy
          · rw [if_neg ha] at hx
            cases hx
        have pw : (ms ++ bs.filterMap fun j => if 25 * (i : Int) + j < n then some (25 * (i : Int) + j) else none).Pairwise (· < ·) :=
          List.pairwise_append.mpr ⟨hr1.1, asc, fun x hx y hy => by obtain ⟨j, hj, e, _⟩ := mem y hy; have := hr2.2 x hx; have := hbs.2 j hj; omega⟩
        refine ⟨f, D, _, _, rfl, rfl, by rw [upd_ne fD]; exact x4 _ _ hf1, upd_same, by rw [List.length_map, List.length_map, sizeLine_eq]; omega, fun f2 hf2 => ⟨by omega, f2, _, ms ++ bs.filterMap fun j => if 25 * (i : Int) + j < n then some (25 * (i : Int) + j) else none, rfl, ?_, ?_, ?_, ?_, ?_⟩⟩
        · have hD1 : H1 D = none := fr_of (x3.trans x4) hD
          exact ext_set (ext_set (x3.trans x4) hD1) (fr_of (ext_set (x3.trans x4) hD1) hf2)
        · exact fr_of (x0.trans (ext_set (x3.trans x4) (fr_of (x3.trans x4) hD))) hf2
        · rw [upd_same, List.map_append]
        · exact ⟨pw, fun x hx => by
            rcases List.mem_append.mp hx with hx | hx
            · exact hr1.2 x hx
            · obtain ⟨j, hj, e, _⟩ := mem x hx
              have := hbs.2 j hj
              omega⟩
        · exact ⟨pw, fun x hx => by
            rcases List.mem_append.mp hx with hx | hx
            · have := hr2.2 x hx
              omega
            · obtain ⟨j, hj, e, _⟩ := mem x hx
              have := hbs.2 j hj
              omega⟩
    · rw [if_neg hi2] at e
      cases e
  · rintro σ H' ⟨hi, f, v, ms, rfl, x3, hf, hf1, hr1, hr2⟩
    exact ⟨_, rfl, h H' f ms (x0.trans x3) hf hf1 hr1⟩
theorem rgV_map (a b : Int) : rgV a b = ((List.range (b - a).toNat).map fun i : Nat => a + (i : Int)).map V.int := by
  unfold rgV
  rw [List.map_map]
  rfl
theorem pure_l_drawn_lot {K : PySem.W.Frag} (F : KF K) (vs : List V) (H : Hp) (Q : VK) (E : XK) (h : sp_l_drawn_lot K vs H Q E) : t_l_drawn_lot K E { nx := fun _ H' => Q .non H', rt := Q } (start ["cell", "salt", "n", "way", "drawn"] vs) H := by
  obtain ⟨c, s, n, w, rfl, c0, s0, s1, n0, n1, h⟩ := h
  unfold t_l_drawn_lot
  bv_omega
  refine ⟨rfl, ?_⟩
  by_cases w0 : w = 0
  · rw [if_pos w0]
    exact ⟨Nat.zero_le _, fun p hp => h _ p [] (ext_new hp) hp upd_same ⟨.nil, fun m hm => by cases hm⟩⟩
  rw [if_neg w0]
  refine ⟨rfl, ?_⟩
  by_cases w1 : w = 1
  · rw [if_pos w1]
    refine ⟨_, rfl, _, rfl, RgOk.of_le (by decide) (by omega) (by decide) n0, fun p hp => h _ p ((List.range n.toNat).map fun i : Nat => (i : Int)) (ext_new hp) hp ?_ ?_⟩
    · rw [upd_same, rgV_map]
      simp
    · refine ⟨List.pairwise_map.mpr (List.pairwise_lt_range.imp fun h => by omega), fun m hm => ?_⟩
      obtain ⟨k, hk, rfl⟩ := List.mem_map.mp hm
      have := List.mem_range.mp hk
      omega
  rw [if_neg w1]
  refine ⟨c, s, n, rfl, c0, s0, s1, n0, n1, fun H1 p ms x1 hp hp1 hr => ⟨rfl, ?_⟩⟩
  by_cases w2 : w = 2
  · rw [if_pos w2]
    refine ⟨p, _, rfl, sqL_of hp1, fun q hq => h _ q (ms.take 1) (ext_set x1 (fr_of x1 hq)) (fr_of x1 hq) ?_ ⟨hr.1.sublist (List.take_sublist _ _), fun m hm => hr.2 m (List.mem_of_mem_take hm)⟩⟩
    rw [upd_same, List.map_take]
    have : cutV (ms.map V.int) none (some 1) = (ms.map V.int).take 1 := by
      unfold cutV
      cases ms with
      | nil => rfl
      | cons a r => simp [HT.sIx]
    rw [this]
  · rw [if_neg w2]
    exact h H1 p ms x1 hp hp1 hr
theorem pure_l_divisors {K : PySem.W.Frag} (F : KF K) (vs : List V) (H : Hp) (Q : VK) (E : XK) (h : sp_l_divisors K vs H Q E) : t_l_divisors K E { nx := fun _ H' => Q .non H', rt := Q } (start ["n", "part"] vs) H := by
  obtain ⟨n, rfl, n1, n2, h⟩ := h
  refine ⟨_, rfl, _, _, rfl, rfl, 1, n + 1, rfl, by omega, fun D hD => lcF (xs := rngV 1 (n + 1 - 1).toNat) (fI fun i => if n % i = 0 then some i else none) hD (fun _ _ => src_rng) (by rw [rngV_len, sizeLine_eq]; omega) ?_ ?_⟩
  · intro x hx H' e R N hR hN
    obtain ⟨i, hi, rfl⟩ := List.mem_map.mp hx
    have := List.mem_range.mp hi
    bv_omega
    refine ⟨by omega, rfl, ?_⟩
    rw [fmod_pos (by omega)]
    by_cases hc : n % (1 + (i : Int)) = 0
    · rw [if_pos hc]
      exact hR _ (by show Option.map V.int (if _ then _ else _) = _; rw [if_pos hc]; rfl)
    · rw [if_neg hc]
      exact hN (by show Option.map V.int (if _ then _ else _) = _; rw [if_neg hc]; rfl)
  · have e : rngV 1 (n + 1 - 1).toNat = ((List.range (n + 1 - 1).toNat).map fun i : Nat => 1 + (i : Int)).map V.int := by unfold rngV; rw [List.map_map]; rfl
    rw [e, fm_fI]
    refine h _ D _ (ext_new hD) hD upd_same (fun z => ?_) fun d hd => ?_
    · have hm : (1 : Int) ∈ ((List.range (n + 1 - 1).toNat).map fun i : Nat => 1 + (i : Int)).filterMap (fun i => if n % i = 0 then some i else none) :=
        List.mem_filterMap.mpr ⟨1, List.mem_map.mpr ⟨0, List.mem_range.mpr (by omega), rfl⟩, by rw [if_pos (Int.emod_one n)]⟩
      rw [z] at hm
      cases hm
    · obtain ⟨i, hi, e2⟩ := List.mem_filterMap.mp hd
      obtain ⟨k, hk, rfl⟩ := List.mem_map.mp hi
      have := List.mem_range.mp hk
      by_cases hc : n % (1 + (k : Int)) = 0
      · rw [if_pos hc] at e2
        cases e2
        exact ⟨by omega, by omega, hc⟩
      · rw [if_neg hc] at e2
        cases e2
theorem pow_step {K : PySem.W.Frag} {E : XK} {H : Hp} {Q : VK} {a : Addr} {n t k : Int} {ms : List Int} {σ : L2.St} {D : Ends} {u : TS} (h0 : σ[0]? = some (some (.ref a))) (h1 : σ[1]? = some (some (.int t))) (L : LotAt K H a n ms) (k9 : k ≤ 1000) (hd : Done K H Q E (powOut n ms t)) (hq : D.rt = Q)
    (hn : t ≠ k → u D σ H) : tSeq (tIfS (tTest (tOp rEq (tVar 1) (tC (.int k)))) (tRet (tBinN (He.ga K "Lot") (sp_Lot_pow K) (wE E) (tVar 0) (tC (.int k)))) tNext) u D σ H := by
  refine ⟨_, h1, rfl, _, rfl, ?_⟩
  dsimp only
  by_cases e : t = k
  · subst e
    rw [if_pos (by simp)]
    obtain ⟨ok, dx, lm, e1, m1⟩ := id L
    refine ⟨_, h0, a, dx, _, t, rfl, e1, rfl, a, n, t, ms, rfl, L, k9, ?_⟩
    show Done K H D.rt E _
    rw [hq]
    exact hd
  · rw [if_neg (by simpa using e)]
    exact hn e
theorem pow_last {K : PySem.W.Frag} {E : XK} {H : Hp} {Q : VK} {a : Addr} {n t k : Int} {ms : List Int} {σ : L2.St} {D : Ends} (h0 : σ[0]? = some (some (.ref a))) (L : LotAt K H a n ms) (k9 : k ≤ 1000) (hd : Done K H Q E (powOut n ms t)) (hq : D.rt = Q)
    (hk : t = k) : tRet (tBinN (He.ga K "Lot") (sp_Lot_pow K) (wE E) (tVar 0) (tC (.int k))) D σ H := by
  subst hk
  obtain ⟨ok, dx, lm, e1, m1⟩ := id L
  refine ⟨_, h0, a, dx, _, t, rfl, e1, rfl, a, n, t, ms, rfl, L, k9, ?_⟩
  show Done K H D.rt E _
  rw [hq]
  exact hd
theorem pure_l_copies_to_21 {K : PySem.W.Frag} (F : KF K) (vs : List V) (H : Hp) (Q : VK) (E : XK) (h : sp_l_copies_to_21 K vs H Q E) : t_l_copies_to_21 K E { nx := fun _ H' => Q .non H', rt := Q } (start ["x", "n"] vs) H := by
  obtain ⟨a, n, t, ms, rfl, L, t0, t1, h⟩ := h
  unfold t_l_copies_to_21
  iterate 21 refine pow_step rfl rfl L (by decide) h rfl fun _ => ?_
  exact pow_last rfl L (by decide) h rfl (by omega)
theorem pure_l_copies_to_43 {K : PySem.W.Frag} (F : KF K) (vs : List V) (H : Hp) (Q : VK) (E : XK) (h : sp_l_copies_to_43 K vs H Q E) : t_l_copies_to_43 K E { nx := fun _ H' => Q .non H', rt := Q } (start ["x", "n"] vs) H := by
  obtain ⟨a, n, t, ms, rfl, L, t0, t1, h⟩ := h
  unfold t_l_copies_to_43
  iterate 21 refine pow_step rfl rfl L (by decide) h rfl fun _ => ?_
  exact pow_last rfl L (by decide) h rfl (by omega)
theorem pure_l_copies_to_64 {K : PySem.W.Frag} (F : KF K) (vs : List V) (H : Hp) (Q : VK) (E : XK) (h : sp_l_copies_to_64 K vs H Q E) : t_l_copies_to_64 K E { nx := fun _ H' => Q .non H', rt := Q } (start ["x", "n"] vs) H := by
  obtain ⟨a, n, t, ms, rfl, L, t0, t1, h⟩ := h
  unfold t_l_copies_to_64
  iterate 20 refine pow_step rfl rfl L (by decide) h rfl fun _ => ?_
  exact pow_last rfl L (by decide) h rfl (by omega)
theorem pure_l_copies {K : PySem.W.Frag} (F : KF K) (vs : List V) (H : Hp) (Q : VK) (E : XK) (h : sp_l_copies K vs H Q E) : t_l_copies K E { nx := fun _ H' => Q .non H', rt := Q } (start ["x", "n"] vs) H := by
  obtain ⟨a, n, t, ms, rfl, L, t0, t1, h⟩ := h
  unfold t_l_copies
  bv_omega
  by_cases h1 : t < 22
  · rw [if_pos h1]
    exact ⟨a, n, t, ms, rfl, L, t0, by omega, h⟩
  · rw [if_neg h1]
    by_cases h2 : t < 44
    · rw [if_pos h2]
      exact ⟨a, n, t, ms, rfl, L, by omega, by omega, h⟩
    · rw [if_neg h2]
      exact ⟨a, n, t, ms, rfl, L, by omega, by omega, h⟩
theorem pure_l_done {K : PySem.W.Frag} (F : KF K) (vs : List V) (H : Hp) (Q : VK) (E : XK) (h : sp_l_done K vs H Q E) : t_l_done K E { nx := fun _ H' => Q .non H', rt := Q } (start ["one", "two", "way"] vs) H := by
  obtain ⟨x, y, w, d, rfl, hd, h⟩ := h
  cases d with
  | mul n ms f =>
    obtain ⟨rfl, hf, a, rfl, L, rfl⟩ := hd
    obtain ⟨ok, dx, lm, e1, m1⟩ := id L
    exact ⟨_, rfl, rfl, _, rfl, .inl ⟨_, rfl, _, rfl, a, dx, _, f, rfl, e1, rfl, a, n, f, ms, rfl, L, hf, h⟩⟩
  | rmul n ms f =>
    obtain ⟨rfl, hf, a, rfl, L, rfl⟩ := hd
    obtain ⟨ok, dx, lm, e1, m1⟩ := id L
    exact ⟨_, rfl, rfl, _, rfl, .inr ⟨_, rfl, _, rfl, f, a, dx, _, rfl, rfl, e1, a, n, f, ms, rfl, L, hf, h⟩⟩
  | add n ms n' ms' =>
    obtain ⟨rfl, a, b, rfl, L, rfl, L'⟩ := hd
    obtain ⟨ok, dx, lm, e1, m1⟩ := id L
    obtain ⟨ok', dx', lm', e1', m1'⟩ := id L'
    exact ⟨_, rfl, rfl, _, rfl, _, rfl, rfl, _, rfl, _, rfl, _, rfl, a, dx, _, b, dx', _, rfl, e1, rfl, e1', a, b, n, n', ms, ms', rfl, L, L', h⟩
  | md n ms m =>
    obtain ⟨rfl, a, rfl, L, rfl⟩ := hd
    obtain ⟨ok, dx, lm, e1, m1⟩ := id L
    exact ⟨_, rfl, rfl, _, rfl, _, rfl, rfl, _, rfl, _, rfl, rfl, _, rfl, _, rfl, _, rfl, a, dx, _, m, rfl, e1, rfl, a, n, m, ms, rfl, L, h⟩
  | pw n ms t =>
    obtain ⟨rfl, t0, t1, a, rfl, L, rfl⟩ := hd
    exact ⟨_, rfl, rfl, _, rfl, _, rfl, rfl, _, rfl, _, rfl, rfl, _, rfl, _, rfl, _, rfl, a, n, t, ms, rfl, L, t0, t1, h⟩
theorem pure_l_numbers {K : PySem.W.Frag} (F : KF K) (vs : List V) (H : Hp) (Q : VK) (E : XK) (h : sp_l_numbers K vs H Q E) : t_l_numbers K E { nx := fun _ H' => Q .non H', rt := Q } (start ["script", "n", "ways", "number", "factor", "parts", "part"] vs) H := by
  obtain ⟨a, ns, n, rfl, hS, n1, n2, h⟩ := h
  unfold t_l_numbers
  bv_omega
  refine ⟨a, ns, 3, rfl, hS, fun r r0 => ⟨by decide, fun p hp => ?_⟩⟩
  refine ⟨r, 2787, p, [6, 2, 6, 360, 65], rfl, r0, by decide, by decide, sqL_of upd_same, by decide, by decide, fun H1 q ws x1 _ hq hl hb => ?_⟩
  match ws, hl with
  | [w0, w1, w2, w3, w4], _ =>
  have b0 := hb 0 w0 6 rfl rfl
  have b1 := hb 1 w1 2 rfl rfl
  have b2 := hb 2 w2 6 rfl rfl
  have b3 := hb 3 w3 360 rfl rfl
  have b4 := hb 4 w4 65 rfl rfl
  have y1 : Ext H H1 := (ext_new hp).trans x1
  refine ⟨a, ns, 4, rfl, sqL_ext y1 hS, fun r2 r20 => ⟨r2, 43, rfl, r20, by decide, by decide, fun H2 num x2 m0 m1 => ?_⟩⟩
  have hq2 : H2 q = some (.lst ([w0, w1, w2, w3, w4].map V.int)) := x2 _ _ hq
  have y2 : Ext H H2 := y1.trans x2
  have bm := emod_rng n1 num
  bv_omega
  refine ⟨by omega, by decide, fun D hD => ?_⟩
  have hqD : q ≠ D := ne_of_none hq2 hD
  have hq3 : SqL K (upd H2 D (.lst [V.int 0, V.int 1, V.int (n - 1), V.int (num.fmod n), V.int num, V.int num])) q ([w0, w1, w2, w3, w4].map V.int) := sqL_of (by rw [upd_ne hqD]; exact hq2)
  have y3 : Ext H2 (upd H2 D (.lst [V.int 0, V.int 1, V.int (n - 1), V.int (num.fmod n), V.int num, V.int num])) := ext_new hD
  obtain ⟨f, hf, ef⟩ := atI_map (fl := [0, 1, n - 1, num.fmod n, num, num]) (i := w0) b0.1 b0.2
  have bf : -(10 ^ 60) < f ∧ f < 10 ^ 60 := by
    rw [fmod_pos n1] at hf
    simp only [List.mem_cons, List.not_mem_nil, or_false] at hf
    omega
  refine ⟨_, hq3, _, rfl, _, w0, rfl, sqL_of upd_same, _, ef, _, hq3, _, rfl, rfl, ?_⟩
  by_cases hw : V.int w1 = V.int 1
  · rw [if_pos hw]
    refine ⟨f, rfl, ?_⟩
    refine ⟨n, rfl, n1, by omega, fun H3 d ds x3 _ hd dne hdv => ?_⟩
    have hq4 : SqL K H3 q ([w0, w1, w2, w3, w4].map V.int) := sqL_ext x3 hq3
    have hqh : H3 q = some (.lst ([w0, w1, w2, w3, w4].map V.int)) := x3 _ _ (by rw [upd_ne hqD]; exact hq2)
    have z3 : Ext H H3 := y2.trans (y3.trans x3)
    refine ⟨_, hq4, _, rfl, ?_⟩
    bv_omega
    have dl : 0 < ds.length := List.length_pos_iff.mpr dne
    have b5 := emod_rng (n := (ds.length : Nat)) (by omega) w3
    obtain ⟨pt, hpt, ept⟩ := atI_map (fl := ds) (i := w3 % (ds.length : Nat)) b5.1 b5.2
    refine ⟨_, .inl (sqL_of hd), by rw [List.length_map]; omega, _, sqL_of hd, _, by rw [List.length_map, fmod_pos (by omega)]; exact ept, pt, rfl, by decide, by decide, fun D2 hD2 => ?_⟩
    have hqD2 : q ≠ D2 := ne_of_none hqh hD2
    obtain ⟨g2, hg2, eg2⟩ := atI_map (fl := [pt, pt, 0, 0 - pt, 1 + num.fmod 400, num]) (i := w2) b2.1 b2.2
    have hq5 : SqL K (upd H3 D2 (.lst [V.int pt, V.int pt, V.int 0, V.int (0 - pt), V.int (1 + num.fmod 400), V.int num])) q ([w0, w1, w2, w3, w4].map V.int) := sqL_of (by rw [upd_ne hqD2]; exact hqh)
    have z4 : Ext H3 (upd H3 D2 (.lst [V.int pt, V.int pt, V.int 0, V.int (0 - pt), V.int (1 + num.fmod 400), V.int num])) := ext_new hD2
    refine ⟨_, hq5, _, rfl, _, w2, rfl, sqL_of upd_same, _, eg2, _, hq5, _, rfl, by decide, fun t ht => h _ t _ g2 w4 ((z3.trans z4).trans (ext_new ht)) upd_same (by omega) b4.1 (by omega)⟩
  · rw [if_neg hw]
    refine ⟨n, rfl, n1, by omega, fun H3 d ds x3 _ hd dne hdv => ?_⟩
    have hq4 : SqL K H3 q ([w0, w1, w2, w3, w4].map V.int) := sqL_ext x3 hq3
    have hqh : H3 q = some (.lst ([w0, w1, w2, w3, w4].map V.int)) := x3 _ _ (by rw [upd_ne hqD]; exact hq2)
    have z3 : Ext H H3 := y2.trans (y3.trans x3)
    refine ⟨_, hq4, _, rfl, ?_⟩
    bv_omega
    have dl : 0 < ds.length := List.length_pos_iff.mpr dne
    have b5 := emod_rng (n := (ds.length : Nat)) (by omega) w3
    obtain ⟨pt, hpt, ept⟩ := atI_map (fl := ds) (i := w3 % (ds.length : Nat)) b5.1 b5.2
    refine ⟨_, .inl (sqL_of hd), by rw [List.length_map]; omega, _, sqL_of hd, _, by rw [List.length_map, fmod_pos (by omega)]; exact ept, pt, rfl, by decide, by decide, fun D2 hD2 => ?_⟩
    have hqD2 : q ≠ D2 := ne_of_none hqh hD2
    obtain ⟨g2, hg2, eg2⟩ := atI_map (fl := [pt, pt, 0, 0 - pt, 1 + num.fmod 400, num]) (i := w2) b2.1 b2.2
    have hq5 : SqL K (upd H3 D2 (.lst [V.int pt, V.int pt, V.int 0, V.int (0 - pt), V.int (1 + num.fmod 400), V.int num])) q ([w0, w1, w2, w3, w4].map V.int) := sqL_of (by rw [upd_ne hqD2]; exact hqh)
    have z4 : Ext H3 (upd H3 D2 (.lst [V.int pt, V.int pt, V.int 0, V.int (0 - pt), V.int (1 + num.fmod 400), V.int num])) := ext_new hD2
    refine ⟨_, hq5, _, rfl, _, w2, rfl, sqL_of upd_same, _, eg2, _, hq5, _, rfl, by decide, fun t ht => h _ t _ g2 w4 ((z3.trans z4).trans (ext_new ht)) upd_same (by omega) b4.1 (by omega)⟩
theorem isi_b {K : PySem.W.Frag} {H : Hp} {Q : VK} {x : V} {T' T : String} {b : Bool} (t : TyX K H x (.type T')) (k : PySem.W.kitOne K (.type T') (.type T) = some b) (q : Q (.bl b) H) : rIsi K [x, .ty T] H Q := ⟨_, _, _, _, b, rfl, .ty _, t, k, q⟩
theorem dnAll_len {H : Hp} {d : Nat} : ∀ {vs : List V} {ps : List PyData}, DnAll H d vs ps → vs.length = ps.length
  | _, _, .nil _ => rfl
  | _, _, .cons h r => by rw [List.length_cons, List.length_cons, dnAll_len r]
theorem dnAll_get {H : Hp} {d : Nat} : ∀ {vs : List V} {ps : List PyData} {k : Nat} {v : V}, DnAll H d vs ps → vs[k]? = some v → ∃ p, ps[k]? = some p ∧ Dn H d v p
  | _, _, 0, _, .cons h r, e => by cases e; exact ⟨_, rfl, h⟩
  | _, _, k + 1, _, .cons h r, e => dnAll_get (k := k) r e
theorem pure_l_same {K : PySem.W.Frag} (d : Nat) (sr : Sp) (hr : ∀ d' vs H Q E, d = d' + 1 → sp_l_same d' K vs H Q E → sr vs H Q E) (vs : List V) (H : Hp) (Q : VK) (E : XK) (h : sp_l_same d K vs H Q E) : t_l_same K sr E { nx := fun _ H' => Q .non H', rt := Q } (start ["got", "due", "k"] vs) H := by
  obtain ⟨x, y, p, rfl, hx, hy, h⟩ := h
  unfold t_l_same
  have loop : ∀ (d' : Nat) (a b : Addr) (xs ys : List V) (ds : List PyData), d = d' + 1 → DnAll H d' xs ds → DnAll H d' ys ds → xs.length ≤ 200000 → x = .ref a → y = .ref b → (SqL K H b ys ∨ SqT K H b ys) → (∀ (k : Nat) (i : Int), i = k → k < ds.length → ∀ R : VK, (∀ v, xs[k]? = some v → R v H) → tOp (rIxL K) (tVar 0) (tVar 2) [some x, some y, some (.int i)] H R ∨ tOp (rIxT K) (tVar 0) (tVar 2) [some x, some y, some (.int i)] H R) →
      (∀ (k : Nat) (i : Int), i = k → k < ds.length → ∀ R : VK, (∀ v, ys[k]? = some v → R v H) → tOp (rIxL K) (tVar 1) (tVar 2) [some x, some y, some (.int i)] H R ∨ tOp (rIxT K) (tVar 1) (tVar 2) [some x, some y, some (.int i)] H R) →
      tSeq (tFor (iRng1 (tCons (tCB (rLenQ K) (tCons (tVar 1) tNil)) tNil)) (gName 2) (tIfS (tNot (tB (tC1 sr (wE E) (tCons (fun σ H Q => (tOp (rIxL K) (tVar 0) (tVar 2)) σ H Q ∨ (tOp (rIxT K) (tVar 0) (tVar 2)) σ H Q) (tCons (fun σ H Q => (tOp (rIxL K) (tVar 1) (tVar 2)) σ H Q ∨ (tOp (rIxT K) (tVar 1) (tVar 2)) σ H Q) tNil))))) (tRet (tC (.bl false))) tNext))
        (tRet (tC (.bl true))) { nx := fun _ H' => Q .non H', rt := Q } [some x, some y, none] H := by
    rintro d' a b xs ys ds rfl ax ay hl rfl rfl hb gx gy
    have l1 := dnAll_len ax
    have l2 := dnAll_len ay
    refine ⟨_, rfl, b, ys, rfl, hb, (ys.length : Nat), rfl, by omega, by omega, forS (xs := rngV 0 (ys.length : Int).toNat) (fun i σ H' => H' = H ∧ ∃ v, σ = [some (.ref a), some (.ref b), v]) ⟨rfl, _, rfl⟩ (fun _ _ _ _ _ => src_rng) ?_ ?_⟩
    · rintro i x σ H' e ⟨rfl, v, rfl⟩
      rw [rngV_get] at e
      by_cases hi : i < (ys.length : Int).toNat
      · rw [if_pos hi] at e
        cases e
        refine gx i _ (by omega) (by omega) _ fun v1 e1 => gy i _ (by omega) (by omega) _ fun v2 e2 => ?_
        obtain ⟨p1, q1, n1⟩ := dnAll_get ax e1
        obtain ⟨p2, q2, n2⟩ := dnAll_get ay e2
        rw [q1] at q2
        cases q2
        refine hr d' _ _ _ _ rfl ⟨v1, v2, p1, rfl, n1, n2, true, rfl, ?_⟩
        exact ⟨rfl, _, rfl⟩
      · rw [if_neg hi] at e
        cases e
    · rintro σ H' ⟨rfl, v, rfl⟩
      exact h
  have hsx : L2.start ["got", "due", "k"] [x, y] = [some x, some y, none] := rfl
  rw [hsx]
  have ld : ∀ z : Bool, ∀ a : Addr, decide (V.ref a = V.bl z) = false := fun _ _ => rfl
  cases hy with
  | non _ =>
    cases hx
    exact seqT (no_b rfl rfl) ⟨_, rfl, rfl, h⟩
  | bl _ b =>
    cases hx
    refine seqF (no_b rfl rfl) ?_
    cases b with
    | true => exact seqT (isl_b rfl rfl) ⟨_, rfl, true, rfl, h⟩
    | false => exact seqF (isl_b rfl rfl) (seqT (isl_b rfl rfl) ⟨_, rfl, false, rfl, h⟩)
  | int _ i =>
    cases hx
    refine seqF (no_b rfl rfl) (seqF (isl_b rfl rfl) (seqF (isl_b rfl rfl) (seqT (isi_t rfl (.base (.int i)) rfl) ?_)))
    refine ⟨_, rfl, i, rfl, true, rfl, _, rfl, _, rfl, rfl, ?_⟩
    rw [show decide (V.int i = V.int i) = true from decide_eq_true rfl]
    exact h
  | str _ z =>
    cases hx
    refine seqF (no_b rfl rfl) (seqF (isl_b rfl rfl) (seqF (isl_b rfl rfl) (seqF (isi_t rfl (.base (.str z)) rfl) (seqT (isi_t rfl (.base (.str z)) rfl) ?_))))
    refine isi_v rfl (.base (.str z)) rfl _ ⟨true, rfl, _, rfl, _, rfl, rfl, ?_⟩
    rw [show decide (V.str z = V.str z) = true from decide_eq_true rfl]
    exact h
  | @lst d' b ys ds eb lb rb =>
    cases hx with
    | @lst _ a xs _ ea la ra =>
      have l1 := dnAll_len ra
      have l2 := dnAll_len rb
      refine seqF (no_b rfl rfl) (seqF (isl_b rfl rfl) (seqF (isl_b rfl rfl) (seqF (isi_t rfl (.base (.lst eb)) rfl) (seqF (isi_t rfl (.base (.lst eb)) rfl) (seqE (isi_t rfl (.base (.lst eb)) rfl) (ifF (or_F (not_b (isi_t rfl (.base (.lst ea)) rfl) rfl) (ne_b (len_v rfl (.inl (sqL_of ea))) (len_v rfl (.inl (sqL_of eb))) rfl (by rw [l1, l2]; simp))) ?_))))))
      exact loop d' a b xs ys ds rfl ra rb la rfl rfl (.inl (sqL_of eb)) (fun k i e hk R hR => .inl ⟨_, rfl, _, rfl, a, xs, i, _, rfl, rfl, sqL_of ea, atI_nat e (List.getElem?_eq_getElem (by omega)), hR _ (List.getElem?_eq_getElem (by omega))⟩)
        (fun k i e hk R hR => .inl ⟨_, rfl, _, rfl, b, ys, i, _, rfl, rfl, sqL_of eb, atI_nat e (List.getElem?_eq_getElem (by omega)), hR _ (List.getElem?_eq_getElem (by omega))⟩)
  | @tup d' b ys ds eb lb rb =>
    cases hx with
    | @tup _ a xs _ ea la ra =>
      have l1 := dnAll_len ra
      have l2 := dnAll_len rb
      refine seqF (no_b rfl rfl) (seqF (isl_b rfl rfl) (seqF (isl_b rfl rfl) (seqF (isi_t rfl (.base (.tup eb)) rfl) (seqF (isi_t rfl (.base (.tup eb)) rfl) (seqT (isi_t rfl (.base (.tup eb)) rfl) (ifF (or_F (not_b (isi_t rfl (.base (.tup ea)) rfl) rfl) (ne_b (len_v rfl (.inr (sqT_of ea))) (len_v rfl (.inr (sqT_of eb))) rfl (by rw [l1, l2]; simp))) ?_))))))
      exact loop d' a b xs ys ds rfl ra rb la rfl rfl (.inr (sqT_of eb)) (fun k i e hk R hR => .inr ⟨_, rfl, _, rfl, a, xs, i, _, rfl, rfl, sqT_of ea, atI_nat e (List.getElem?_eq_getElem (by omega)), hR _ (List.getElem?_eq_getElem (by omega))⟩)
        (fun k i e hk R hR => .inr ⟨_, rfl, _, rfl, b, ys, i, _, rfl, rfl, sqT_of eb, atI_nat e (List.getElem?_eq_getElem (by omega)), hR _ (List.getElem?_eq_getElem (by omega))⟩)
theorem pure_l_same_0 {K : PySem.W.Frag} (F : KF K) (vs : List V) (H : Hp) (Q : VK) (E : XK) (h : sp_l_same 0 K vs H Q E) : t_l_same K (fun _ _ _ _ => False) E { nx := fun _ H' => Q .non H', rt := Q } (start ["got", "due", "k"] vs) H :=
  pure_l_same 0 _ (fun _ _ _ _ _ e => by cases e) vs H Q E h
theorem pure_l_same_1 {K : PySem.W.Frag} (F : KF K) (vs : List V) (H : Hp) (Q : VK) (E : XK) (h : sp_l_same 1 K vs H Q E) : t_l_same K (sp_l_same 0 K) E { nx := fun _ H' => Q .non H', rt := Q } (start ["got", "due", "k"] vs) H :=
  pure_l_same 1 _ (fun d' vs H Q E e h => by cases e; exact h) vs H Q E h
theorem pure_l_told {K : PySem.W.Frag} (F : KF K) (vs : List V) (H : Hp) (Q : VK) (E : XK) (h : sp_l_told K vs H Q E) : t_l_told K E { nx := fun _ H' => Q .non H', rt := Q } (start ["one", "two", "way", "told", "e"] vs) H := by
  obtain ⟨x, y, w, d, rfl, hd, h⟩ := h
  refine ⟨_, rfl, _, rfl, _, rfl, x, y, w, d, rfl, hd, ?_⟩
  cases e : d.out with
  | lot n ms =>
    rw [e] at h
    exact fun H' a x1 L => ⟨_, rfl, h H' _ x1 ⟨a, rfl, L⟩⟩
  | meets m =>
    rw [e] at h
    refine fun H' dd x1 hx => wH_yes ((F.ex (by decide) (by decide)).trans (by decide)) fun a ha => ?_
    refine ⟨_, rfl, rfl, rfl, dd, _, _, rfl, hx, rfl, Nat.le_of_ble_eq_true rfl, fun p hp => ⟨_, rfl, h _ _ (ext_set x1 (fr_of x1 hp)) (.tup upd_same (Nat.le_of_ble_eq_true rfl) (.cons (.str _ _) (.cons (.int _ _) (.nil _))))⟩⟩
  | other =>
    rw [e] at h
    refine fun H' x1 => wH_no ((F.ex (by decide) (by decide)).trans (by decide)) (wH_yes ((F.ex (by decide) (by decide)).trans (by decide)) fun a ha => ?_)
    refine ⟨by decide, fun p hp => ⟨_, rfl, h _ _ (ext_set x1 (fr_of x1 hp)) (.tup upd_same (Nat.le_of_ble_eq_true rfl) (.cons (.str _ _) (.nil _)))⟩⟩
  | notdiv m =>
    rw [e] at h
    refine fun H' dd x1 hx => wH_no ((F.ex (by decide) (by decide)).trans (by decide)) (wH_no ((F.ex (by decide) (by decide)).trans (by decide)) (wH_yes ((F.ex (by decide) (by decide)).trans (by decide)) fun a ha => ?_))
    refine ⟨_, rfl, rfl, rfl, dd, _, _, rfl, hx, rfl, Nat.le_of_ble_eq_true rfl, fun p hp => ⟨_, rfl, h _ _ (ext_set x1 (fr_of x1 hp)) (.tup upd_same (Nat.le_of_ble_eq_true rfl) (.cons (.str _ _) (.cons (.int _ _) (.nil _))))⟩⟩
  | bad nm v =>
    rw [e] at h
    refine fun H' dd x1 hx => wH_no ((F.ex (by decide) (by decide)).trans (by decide)) (wH_no ((F.ex (by decide) (by decide)).trans (by decide)) (wH_no ((F.ex (by decide) (by decide)).trans (by decide)) (wH_yes ((F.ex (by decide) (by decide)).trans (by decide)) fun a ha => ?_)))
    refine ⟨_, rfl, rfl, rfl, dd, _, _, rfl, hx, rfl, _, rfl, rfl, rfl, dd, _, _, rfl, hx, rfl, Nat.le_of_ble_eq_true rfl, fun p hp => ⟨_, rfl, h _ _ (ext_set x1 (fr_of x1 hp)) (.tup upd_same (Nat.le_of_ble_eq_true rfl) (.cons (.str _ _) (.cons (.str _ _) (.cons (.int _ _) (.nil _)))))⟩⟩
theorem pure_l_kinds {K : PySem.W.Frag} (F : KF K) (vs : List V) (H : Hp) (Q : VK) (E : XK) (h : sp_l_kinds K vs H Q E) : t_l_kinds K E { nx := fun _ H' => Q .non H', rt := Q } (start ["one", "two", "way", "kinds", "e"] vs) H := by
  obtain ⟨x, y, w, d, rfl, hd, h⟩ := h
  refine ⟨by decide, fun p hp => ?_⟩
  have x0 : Ext H (upd H p (.lst [])) := ext_new hp
  refine ⟨_, rfl, _, rfl, _, rfl, x, y, w, d, rfl, Deed.ext hd x0, ?_⟩
  have suite : ∀ (C : Str) (hC : C ∈ raisedC) (dd : Option Addr) (H' : Hp), Ext (upd H p (.lst [])) H' → (∀ d, dd = some d → ∃ fs, H' d = some (.xd fs)) → (∀ H2 q, Ext H' H2 → H2 q = some (.lst ([true, decide (C = "Meets"), decide (C = "OtherHours"), decide (C = "NotADivisor"), decide (C = "BadNumber"), decide (C = "RepeatedHour")].map V.bl)) → Q (.ref q) H2) → wH K (wE E) { nx := tRet (tVar 3) { nx := fun _ H' => Q .non H', rt := Q }, rt := Q } [((.ref (He.ga K "WatchError")), (some 4), fun a cls d => (tSeq (tAsg (tLst (tCons (tCB (rIsXx K cls a d) (tCons (tVar 4) (tCons (tC (.ty "ValueError")) tNil))) (tCons (tCB (rIsXx K cls a d) (tCons (tVar 4) (tCons (tC (.ref (He.ga K "Meets"))) tNil))) (tCons (tCB (rIsXx K cls a d) (tCons (tVar 4) (tCons (tC (.ref (He.ga K "OtherHours"))) tNil))) (tCons (tCB (rIsXx K cls a d) (tCons (tVar 4) (tCons (tC (.ref (He.ga K "NotADivisor"))) tNil))) tNil))))) (gName 3))
  (tAsg (tOp rCat (tVar 3) (tLst (tCons (tCB (rIsXx K cls a d) (tCons (tVar 4) (tCons (tC (.ref (He.ga K "BadNumber"))) tNil))) (tCons (tCB (rIsXx K cls a d) (tCons (tVar 4) (tCons (tC (.ref (He.ga K "RepeatedHour"))) tNil))) tNil)))) (gName 3))))] (.ref (He.ga K C)) dd [some x, some y, some (.int w), some (.ref p), none] H' := by
    intro C hC dd H' x1 hdd hq
    have hw : decide (C = "WatchError") = false := (by decide : ∀ C ∈ raisedC, decide (C = "WatchError") = false) C hC
    have kc := F.kc hC
    refine wH_yes ((F.ex hC (by decide)).trans (by simp)) fun a ha => ?_
    have isx : ∀ (y : Str) (hy : y ∈ askedC) (H2 : Hp), Ext H' H2 → ∀ R : VK, R (.bl (decide (C = y))) H2 → rIsXx K (.ref (He.ga K C)) a dd [.ref a, .ref (He.ga K y)] H2 R := fun y hy H2 e R r => ⟨_, rfl, kc, fun d q => by obtain ⟨fs, h⟩ := hdd d q; exact ⟨fs, e _ _ h⟩, .ref (He.ga K y), .ref (He.ga K y), _, rfl, fun u ru => ru, F.ko hC hy, r⟩
    refine ⟨_, rfl, ⟨_, rfl, kc, hdd, .ty "ValueError", .type "ValueError", true, rfl, fun u ru => ru, F.kv hC, ?_⟩⟩
    refine ⟨_, rfl, isx "Meets" (by decide) _ (Ext.refl _) _ ⟨_, rfl, isx "OtherHours" (by decide) _ (Ext.refl _) _ ⟨_, rfl, isx "NotADivisor" (by decide) _ (Ext.refl _) _ ⟨Nat.le_of_ble_eq_true rfl, fun q hq' => ?_⟩⟩⟩⟩
    refine ⟨_, rfl, _, rfl, isx "BadNumber" (by decide) _ (ext_new hq') _ ⟨_, rfl, isx "RepeatedHour" (by decide) _ (ext_new hq') _ ⟨Nat.le_of_ble_eq_true rfl, fun q2 hq2 => ?_⟩⟩⟩
    have q2' := fr_of (ext_new hq') hq2
    have qq : q ≠ q2 := fun z => by rw [← z, upd_same] at hq2; cases hq2
    refine ⟨q, q2, _, _, rfl, rfl, by rw [upd_ne qq, upd_same], upd_same, Nat.le_of_ble_eq_true rfl, fun q3 hq3 => ⟨_, rfl, hq _ _ (ext_set (ext_set (ext_new hq') q2') (fr_of (ext_set (ext_new hq') q2') hq3)) upd_same⟩⟩
  have ex : ∀ {H2 : Hp} {q : Addr} {xs : List V}, Ext (upd H p (.lst [])) H2 → H2 q = some (.lst xs) → Ext H H2 := fun x1 _ => x0.trans x1
  cases e : d.out with
  | lot n ms =>
    rw [e] at h
    exact fun H' a x1 L => ⟨_, rfl, h H' p (x0.trans x1) (x1 _ _ upd_same)⟩
  | meets m =>
    rw [e] at h
    exact fun H' dd x1 hx => suite "Meets" (by decide) _ H' x1 (fun d z => by cases z; exact ⟨_, hx⟩) fun H2 q x2 hq => h H2 q (x0.trans (x1.trans x2)) hq
  | other =>
    rw [e] at h
    exact fun H' x1 => suite "OtherHours" (by decide) _ H' x1 (fun d z => by cases z) fun H2 q x2 hq => h H2 q (x0.trans (x1.trans x2)) hq
  | notdiv m =>
    rw [e] at h
    exact fun H' dd x1 hx => suite "NotADivisor" (by decide) _ H' x1 (fun d z => by cases z; exact ⟨_, hx⟩) fun H2 q x2 hq => h H2 q (x0.trans (x1.trans x2)) hq
  | bad nm v =>
    rw [e] at h
    exact fun H' dd x1 hx => suite "BadNumber" (by decide) _ H' x1 (fun d z => by cases z; exact ⟨_, hx⟩) fun H2 q x2 hq => h H2 q (x0.trans (x1.trans x2)) hq
theorem pure_l_is_lot {K : PySem.W.Frag} (F : KF K) (vs : List V) (H : Hp) (Q : VK) (E : XK) (h : sp_l_is_lot K vs H Q E) : t_l_is_lot K E { nx := fun _ H' => Q .non H', rt := Q } (start ["lot", "n", "due"] vs) H := by
  obtain ⟨a, l, n, ms, rfl, L, hl, h⟩ := h
  obtain ⟨ok, dx, lm, e1, m1⟩ := id L
  have len : (ms.map V.int).length ≤ 200000 := by have := ok.len; rw [List.length_map]; omega
  have k1 : KB (tNot (tB (tCB (rIsi K) (tCons (tVar 0) (tCons (tC (.ref (He.ga K "Lot"))) tNil))))) [some (.ref a), some (.int n), some (.ref l)] H false := KB.not (KB.of (isi_own rfl (insAll_ok F.lot e1))) rfl
  have k2 : ∀ H1, Ext H H1 → KB (tNot (tB (tC1 (sp_l_same 1 K) (wE E) (tCons (tFldI (He.ga K "Lot") "hours" (tVar 0)) (tCons (tVar 1) tNil))))) [some (.ref a), some (.int n), some (.ref l)] H1 false := fun H1 x1 => KB.not (KV.test (KV.of fun R r => ⟨_, rfl, a, dx, _, _, rfl, x1 _ _ e1, lot_h n lm, _, rfl, _, _, _, rfl, .int _ n, .int _ n, r⟩)) rfl
  have k3 : ∀ H1, Ext H H1 → KB (tNot (tB (tC1 (sp_l_same 1 K) (wE E) (tCons (tProp (He.ga K "Lot") (sp_Lot_members K) [] E0 (tVar 0)) (tCons (tVar 2) tNil))))) [some (.ref a), some (.int n), some (.ref l)] H1 false := fun H1 x1 => KB.not (KV.test fun R r =>
    ⟨_, rfl, a, dx, _, rfl, x1 _ _ e1, a, n, ms, rfl, L.ext x1, fun H2 p x2 hp => ⟨_, rfl, _, _, .list (ms.map PyData.int), rfl, .lst hp len (dnInts _ _ _), .lst (x2 _ _ (x1 _ _ hl)) len (dnInts _ _ _), r H2 x2⟩⟩) rfl
  refine KB.seqF (KB.orF k1 fun H1 x1 => KB.orF (k2 H1 x1) fun H2 x2 => k3 H2 (x1.trans x2)) fun H1 x1 => ?_
  refine ⟨_, rfl, a, dx, _, rfl, x1 _ _ e1, a, n, ms, rfl, L.ext x1, ms.length, rfl, by have := ok.len; omega, _, rfl, l, _, rfl, .inl (sqL_of (x1 _ _ hl)), rfl, ?_⟩
  rw [show decide (V.int (ms.length : Nat) = V.int ((ms.map V.int).length : Nat)) = true from by simp]
  exact h H1 x1
theorem dpBools {K : PySem.W.Frag} {H : Hp} : ∀ bs : List Bool, DpAll K H (bs.map V.bl) (bs.map PyData.bool)
  | [] => .nil
  | b :: r => .cons (.bl b) (dpBools r)
theorem eq_bools {K : PySem.W.Frag} {H : Hp} {p q : Addr} {bs : List Bool} (h1 : H p = some (.lst (bs.map V.bl))) (h2 : H q = some (.lst (bs.map V.bl))) (hs : SeqAt.shaped (.list (bs.map PyData.bool)) = true) (Q : VK) (r : Q (.bl true) H) : rEqD K (.ref p) (.ref q) H Q :=
  ⟨_, _, .lst (sqL_of h1) (dpBools bs), .lst (sqL_of h2) (dpBools bs), hs, hs, by rw [SeqAt.eqv_refl _ (SeqAt.canLay_of_shaped hs)]; exact r⟩
/-- a deed that fails: its kinds, its name -/
theorem agrees_bad {K : PySem.W.Frag} {E : XK} {Q : VK} {H2 : Hp} {x y u told : V} {w n : Int} {p t : Addr} {nm : Str} {r : List V} {rd : List PyData} (ht : H2 t = some (.tup (.str nm :: r))) (hu : u = .ref t)
    (hk : H2 p = some (.lst ([true, decide (nm = "Meets"), decide (nm = "OtherHours"), decide (nm = "NotADivisor"), decide (nm = "BadNumber"), false].map V.bl))) (h1 : Dn H2 1 told (.tuple (.str nm :: rd))) (h2 : Dn H2 1 u (.tuple (.str nm :: rd))) (h : ∀ H', Ext H2 H' → Q (.bl true) H') :
    tSeq (tAsg (tLc (iList K (tLst (tCons (tC (.str "Meets")) (tCons (tC (.str "OtherHours")) (tCons (tC (.str "NotADivisor")) (tCons (tC (.str "BadNumber")) tNil)))))) (gName 8) tYes (tOp rEq (tOp (rIxT K) (tVar 4) (tC (.int 0))) (tVar 8)) [8]) (gName 7))
      (tRet (tAndV (tOp (rEqD K) (tVar 6) (tOp rCat (tOp rCat (tLst (tCons (tC (.bl true)) tNil)) (tVar 7)) (tLst (tCons (tC (.bl false)) tNil)))) (tC1 (sp_l_same 1 K) (wE E) (tCons (tVar 5) (tCons (tVar 4) tNil)))))
      { nx := fun _ H' => Q .non H', rt := Q } [some x, some y, some (.int w), some (.int n), some u, some told, some (.ref p), none, none] H2 := by
  subst hu
  refine ⟨Nat.le_of_ble_eq_true rfl, fun l hl => ⟨l, rfl, ⟨_, sqL_of upd_same⟩, fun D hD => lcF (xs := [.str "Meets", .str "OtherHours", .str "NotADivisor", .str "BadNumber"]) (fun v => match v with | .str s => some (.bl (decide (nm = s))) | _ => none) hD (fun H3 x3 => src_list (sqL_ext x3 (sqL_of upd_same))) (Nat.le_of_ble_eq_true rfl) ?_ ?_⟩⟩
  · intro v hv H3 x3 R N hR hN
    have ht3 := x3 _ _ (ext_new hl _ _ ht)
    obtain ⟨s, rfl⟩ : ∃ s, v = .str s := by
      simp only [List.mem_cons, List.not_mem_nil, or_false] at hv
      rcases hv with e | e | e | e <;> exact ⟨_, e⟩
    refine ⟨_, rfl, t, _, 0, .str nm, rfl, rfl, sqT_of ht3, atI_nat (k := 0) rfl rfl, _, rfl, rfl, ?_⟩
    have : decide (V.str nm = V.str s) = decide (nm = s) := by simp
    rw [this]
    exact hR _ rfl
  · have D0 := fr_of (ext_new hl) hD
    generalize hH3 : upd (upd H2 l (.lst [.str "Meets", .str "OtherHours", .str "NotADivisor", .str "BadNumber"])) D (.lst ([V.str "Meets", V.str "OtherHours", V.str "NotADivisor", V.str "BadNumber"].filterMap fun v => match v with | .str s => some (.bl (decide (nm = s))) | _ => none)) = H3
    have x3 : Ext H2 H3 := by rw [← hH3]; exact ext_set (ext_new hl) D0
    have hD3 : H3 D = some (.lst ([decide (nm = "Meets"), decide (nm = "OtherHours"), decide (nm = "NotADivisor"), decide (nm = "BadNumber")].map V.bl)) := by rw [← hH3, upd_same]; rfl
    refine ⟨_, rfl, Nat.le_of_ble_eq_true rfl, fun a1 ha1 => ?_⟩
    have aD : D ≠ a1 := ne_of_none hD3 ha1
    refine ⟨_, rfl, a1, D, _, _, rfl, rfl, upd_same, by rw [upd_ne aD]; exact hD3, Nat.le_of_ble_eq_true rfl, fun a2 ha2 => ⟨Nat.le_of_ble_eq_true rfl, fun a3 ha3 => ?_⟩⟩
    have x4 := x3.trans (ext_new (o := .lst [V.bl true]) ha1)
    have e23 : a2 ≠ a3 := fun z => by rw [← z, upd_same] at ha3; cases ha3
    refine ⟨a2, a3, _, _, rfl, rfl, by rw [upd_ne e23, upd_same], upd_same, Nat.le_of_ble_eq_true rfl, fun a4 ha4 => ?_⟩
    have f2 := fr_of x4 ha2
    have x5 := ext_set (o := .lst ([V.bl true] ++ [decide (nm = "Meets"), decide (nm = "OtherHours"), decide (nm = "NotADivisor"), decide (nm = "BadNumber")].map V.bl)) x4 f2
    have x6 := ext_set (o := .lst [V.bl false]) x5 (fr_of x5 ha3)
    have f4 := fr_of x6 ha4
    refine eq_bools (bs := [true, decide (nm = "Meets"), decide (nm = "OtherHours"), decide (nm = "NotADivisor"), decide (nm = "BadNumber"), false]) ((ext_set x6 f4) _ _ hk) upd_same rfl _ ⟨true, rfl, iteT ?_⟩
    exact ⟨_, rfl, _, rfl, _, _, _, rfl, h1.ext (ext_set x6 f4), h2.ext (ext_set x6 f4), h _ (ext_set x6 f4)⟩
theorem pure_l_agrees {K : PySem.W.Frag} (F : KF K) (vs : List V) (H : Hp) (Q : VK) (E : XK) (h : sp_l_agrees K vs H Q E) : t_l_agrees K E { nx := fun _ H' => Q .non H', rt := Q } (start ["one", "two", "way", "n", "due", "told", "kinds", "words", "word"] vs) H := by
  obtain ⟨x, y, u, w, n, d, rfl, hd, hu, hn, h⟩ := h
  refine ⟨_, rfl, _, rfl, _, rfl, x, y, w, d, rfl, hd, fun H1 told x1 ht => ?_⟩
  refine ⟨_, rfl, _, rfl, _, rfl, x, y, w, d, rfl, Deed.ext hd x1, fun H2 p x2 hk => ?_⟩
  have x12 := x1.trans x2
  have bad : ∀ (nm : Str) (r : List PyData), dueD d.out = .tuple (.str nm :: r) → ToldAt K H1 told d.out = Dn H1 1 told (.tuple (.str nm :: r)) → kindsOf d.out = [true, decide (nm = "Meets"), decide (nm = "OtherHours"), decide (nm = "NotADivisor"), decide (nm = "BadNumber"), false] →
      tSeq (tIfS (tB (tCB (rIsi K) (tCons (tVar 4) (tCons (tC (.ty "list")) tNil)))) (tRet (tAndV (tOp (rEqD K) (tVar 6) (tLst tNil)) (tC1 (sp_l_is_lot K) (wE E) (tCons (tVar 5) (tCons (tVar 3) (tCons (tVar 4) tNil)))))) tNext)
        (tSeq (tAsg (tLc (iList K (tLst (tCons (tC (.str "Meets")) (tCons (tC (.str "OtherHours")) (tCons (tC (.str "NotADivisor")) (tCons (tC (.str "BadNumber")) tNil)))))) (gName 8) tYes (tOp rEq (tOp (rIxT K) (tVar 4) (tC (.int 0))) (tVar 8)) [8]) (gName 7))
      (tRet (tAndV (tOp (rEqD K) (tVar 6) (tOp rCat (tOp rCat (tLst (tCons (tC (.bl true)) tNil)) (tVar 7)) (tLst (tCons (tC (.bl false)) tNil)))) (tC1 (sp_l_same 1 K) (wE E) (tCons (tVar 5) (tCons (tVar 4) tNil))))))
      { nx := fun _ H' => Q .non H', rt := Q } [some x, some y, some (.int w), some (.int n), some u, some told, some (.ref p), none, none] H2 := by
    intro nm r e1 e2 e3
    rw [e1] at hu
    rw [e2] at ht
    rw [e3] at hk
    have hu2 := hu.ext x12
    cases hu2 with
    | @tup _ t xs _ et lt rt =>
      cases rt with
      | @cons _ v vs' _ _ hv rr =>
        cases hv
        exact seqF (isi_t rfl (.base (.tup et)) rfl) (agrees_bad et rfl hk (ht.ext x2) (.tup et lt (.cons (.str _ _) rr)) fun H' x3 => h H' (x12.trans x3))
  cases e : d.out with
  | lot n' ms =>
    rw [e] at hu ht hk
    obtain ⟨a, rfl, L⟩ := ht
    have en := hn n' ms e
    subst en
    cases hu with
    | @lst _ l xs _ el ll rl =>
      have ex : xs = ms.map V.int := by
        clear el ll
        have go : ∀ (ms : List Int) (xs : List V), DnAll H 0 xs (ms.map PyData.int) → xs = ms.map V.int := by
          intro ms
          induction ms with
          | nil => intro xs h; cases h; rfl
          | cons m r ih => intro xs h; cases h with | cons h1 h2 => cases h1; rw [ih _ h2]; rfl
        exact go ms xs rl
      subst ex
      refine seqT (isi_t rfl (.base (.lst (x12 _ _ el))) rfl) ⟨_, rfl, Nat.zero_le _, fun q hq => ?_⟩
      refine eq_bools (bs := []) (ext_new hq _ _ hk) upd_same rfl _ ⟨true, rfl, iteT ?_⟩
      exact ⟨_, rfl, _, rfl, _, rfl, a, l, n, ms, rfl, (L.ext x2).ext (ext_new hq), ext_new hq _ _ (x12 _ _ el), fun H' x3 => h H' ((x12.trans (ext_new hq)).trans x3)⟩
  | meets m => exact bad "Meets" [.int m] (by rw [e] <;> rfl) (by rw [e] <;> rfl) (by rw [e] <;> rfl)
  | other => exact bad "OtherHours" [] (by rw [e] <;> rfl) (by rw [e] <;> rfl) (by rw [e] <;> rfl)
  | notdiv m => exact bad "NotADivisor" [.int m] (by rw [e] <;> rfl) (by rw [e] <;> rfl) (by rw [e] <;> rfl)
  | bad nm v => exact bad "BadNumber" [.str nm, .int v] (by rw [e] <;> rfl) (by rw [e] <;> rfl) (by rw [e] <;> rfl)
/-- counting: how often each hour comes up -/
theorem adj_first : ∀ (l : List Int) (h : Int), l.Pairwise (· ≤ ·) → 2 ≤ l.count h → (∀ k, k < h → l.count k ≤ 1) → adj l = some h
  | [], h, _, h2, _ => by simp at h2
  | [a], h, _, h2, _ => by
    rw [List.count_cons, List.count_nil] at h2
    split at h2 <;> omega
  | a :: b :: r, h, hp, h2, hk => by
    obtain ⟨h1, h3⟩ := List.pairwise_cons.mp hp
    show (if a = b then some a else adj (b :: r)) = some h
    by_cases e : a = b
    · rw [if_pos e]
      subst e
      have ca : 2 ≤ (a :: a :: r).count a := by rw [List.count_cons, List.count_cons]; simp
      by_cases q : a < h
      · have := hk a q
        omega
      · have : h ∈ a :: a :: r := List.count_pos_iff.mp (by omega)
        have hle : a ≤ h := by
          rcases List.mem_cons.mp this with rfl | hm
          · exact Int.le_refl _
          · exact h1 h hm
        rw [show h = a by omega]
    · rw [if_neg e]
      have na : h ≠ a := fun z => by
        subst z
        have : (h :: b :: r).count h = 1 := by
          rw [List.count_cons]
          have : (b :: r).count h = 0 := List.count_eq_zero.mpr fun hm => by
            have q := h1 b List.mem_cons_self
            have : ∀ y ∈ b :: r, b ≤ y := fun y hy => by
              rcases List.mem_cons.mp hy with rfl | hy
              · exact Int.le_refl _
              · exact (List.pairwise_cons.mp h3).1 y hy
            have := this h hm
            omega
          simp [this]
        omega
      refine adj_first (b :: r) h h3 ?_ fun k hk' => ?_
      · rw [List.count_cons, if_neg (by simpa using Ne.symm na)] at h2
        exact h2
      · have := hk k hk'
        rw [List.count_cons] at this
        omega
theorem rep_first {rs : List Int} {h : Int} (h2 : 2 ≤ rs.count h) (hk : ∀ k, k < h → rs.count k ≤ 1) : rep rs = some h := by
  refine adj_first _ _ (srt_le rs) ?_ fun k hk' => ?_
  · rw [(srt_perm rs).count_eq]; exact h2
  · rw [(srt_perm rs).count_eq]; exact hk k hk'
theorem rep_none_of_count {rs : List Int} (hk : ∀ k, rs.count k ≤ 1) : rep rs = none := rep_none_of_nodup (List.nodup_iff_count.mpr hk)
theorem set_get {ns : List Int} {k j : Nat} {v : Int} (h : k < ns.length) : (ns.set k v)[j]? = if j = k then some v else ns[j]? := by
  rw [List.getElem?_set]
  by_cases e : k = j
  · subst e
    rw [if_pos rfl, if_pos h, if_pos rfl]
  · rw [if_neg e, if_neg (Ne.symm e)]
theorem pure_l_once {K : PySem.W.Frag} (F : KF K) (vs : List V) (H : Hp) (Q : VK) (E : XK) (h : sp_l_once K vs H Q E) : t_l_once K E { nx := fun _ H' => Q .non H', rt := Q } (start ["residues", "n", "counts", "residue", "h"] vs) H := by
  obtain ⟨a, n, rs, rfl, ha, n0, n1, hr, h⟩ := h
  refine ⟨Nat.le_of_ble_eq_true rfl, fun p hp => ⟨_, rfl, p, n, _, rfl, rfl, upd_same, by omega, by omega, by show 1 * _ ≤ _; rw [sizeLine_eq]; omega, fun c hc => ?_⟩⟩
  have c0 := fr_of (ext_new hp) hc
  have x0 : Ext H (upd (upd H p (.lst [.int 0])) c (.lst (List.replicate n.toNat [V.int 0]).flatten)) := ext_set (ext_new hp) c0
  have ha0 := x0 _ _ ha
  refine ⟨_, rfl, a, rfl, ⟨_, sqL_of ha0⟩, forS (xs := rs.map V.int) (fun i σ H' => ∃ (v : Option V) (cs : List Int), σ = [some (.ref a), some (.int n), some (.ref c), v, none] ∧ Ext H H' ∧ H' c = some (.lst (cs.map V.int)) ∧ cs.length = n.toNat ∧ ∀ k : Nat, k < n.toNat → cs[k]? = some (((rs.take i).count (k : Int) : Nat) : Int)) ?_ (fun i σ H' _ ⟨v, cs, e, x1, _⟩ => src_list (sqL_of (x1 _ _ ha))) ?_ ?_⟩
  · refine ⟨_, List.replicate n.toNat 0, rfl, x0, by rw [upd_same, rep_ints], by rw [List.length_replicate], fun k hk => ?_⟩
    rw [List.getElem?_replicate, if_pos hk]
    simp
  · rintro i x σ H' e ⟨v, cs, rfl, x1, hc1, hl, hcs⟩
    rw [List.getElem?_map] at e
    cases hw : rs[i]? with
    | none => rw [hw] at e; cases e
    | some w =>
      rw [hw] at e
      cases e
      have bw := hr w (List.mem_of_getElem? hw)
      have gk := hcs w.toNat (by omega)
      have lt : w.toNat < cs.length := by omega
      have hix : ixN (cs.map V.int).length w = some w.toNat := by
        unfold ixN
        rw [List.length_map, if_pos bw.1, if_pos (by omega)]
      bv_omega
      refine ⟨_, sqL_of hc1, _, atI_nat (k := w.toNat) (by omega) (map_get gk), _, rfl, _, hc1, _, hix, ext_set x1 c0, cs.set w.toNat (((rs.take i).count ((w.toNat : Nat) : Int) : Nat) + 1), by rw [upd_same, List.map_set], by rw [List.length_set, hl], fun k hk => ?_⟩
      rw [set_get lt, List.take_add_one, hw, List.count_append]
      show _ = some ((((rs.take i).count (k : Int) + [w].count (k : Int) : Nat)) : Int)
      by_cases ek : k = w.toNat
      · rw [if_pos ek, ek]
        have : ((w.toNat : Nat) : Int) = w := by omega
        rw [this, List.count_singleton, if_pos (by simp)]
        simp
      · rw [if_neg ek, hcs k hk, List.count_singleton, if_neg (by simp; omega)]
        simp
  · rintro σ H1 ⟨v, cs, rfl, x1, hc1, hl, hcs⟩
    rw [List.length_map, List.take_length] at hcs
    refine ⟨_, rfl, n, rfl, by omega, by omega, forS (xs := rngV 0 n.toNat) (fun i σ H' => H' = H1 ∧ ∃ (v w : Option V), σ = [some (.ref a), some (.int n), some (.ref c), v, w] ∧ ∀ k : Nat, k < i → rs.count (k : Int) ≤ 1) ⟨rfl, _, _, rfl, fun k hk => absurd hk (Nat.not_lt_zero _)⟩ (fun _ _ _ _ _ => src_rng) ?_ ?_⟩
    · rintro i x σ H' e ⟨rfl, v', w', rfl, hk⟩
      rw [rngV_get] at e
      by_cases hi : i < n.toNat
      · rw [if_pos hi] at e
        cases e
        have gk := hcs i hi
        bv_omega
        refine ⟨_, sqL_of hc1, _, atI_nat (k := i) (by omega) (map_get gk), _, rfl, ?_⟩
        by_cases h1 : 1 < ((rs.count (i : Int) : Nat) : Int)
        · rw [if_pos h1]
          have hrep : rep rs = some (i : Int) := rep_first (by omega) fun k hk' => by
            by_cases k0 : 0 ≤ k
            · have := hk k.toNat (by omega)
              rw [show ((k.toNat : Nat) : Int) = k by omega] at this
              exact this
            · rw [List.count_eq_zero.mpr fun hm => k0 (hr k hm).1]
              omega
          refine ⟨Nat.le_of_ble_eq_true rfl, fun q hq => h _ _ (ext_set x1 (fr_of x1 hq)) ?_⟩
          unfold onceOut
          rw [hrep]
          exact .tup upd_same (Nat.le_of_ble_eq_true rfl) (.cons (.str _ _) (.cons (by rw [Int.zero_add]; exact .int _ _) (.nil _)))
        · rw [if_neg h1]
          exact ⟨_, _, ⟨rfl, rfl⟩, fun k hk' => by
            by_cases e : k = i
            · subst e; omega
            · exact hk k (by omega)⟩
      · rw [if_neg hi] at e
        cases e
    · rintro σ H' ⟨rfl, v', w', rfl, hk⟩
      rw [rngV_len] at hk
      have hk' : ∀ k, rs.count k ≤ 1 := fun k => by
        by_cases k0 : 0 ≤ k ∧ k < n
        · have := hk k.toNat (by omega)
          rw [show ((k.toNat : Nat) : Int) = k by omega] at this
          exact this
        · rw [List.count_eq_zero.mpr fun hm => k0 (hr k hm)]
          omega
      have hrep := rep_none_of_count hk'
      refine ⟨_, rfl, n, rfl, by omega, by omega, fun D hD => lcF (xs := rngV 0 n.toNat) (fI fun i => if rs.count i = 1 then some i else none) hD (fun _ _ => src_rng) (by rw [rngV_len, sizeLine_eq]; omega) ?_ ?_⟩
      · intro x hx H3 e R N hR hN
        obtain ⟨i, hi, rfl⟩ := List.mem_map.mp hx
        have hi := List.mem_range.mp hi
        have gk := hcs i hi
        bv_omega
        refine ⟨_, sqL_of (e _ _ hc1), _, atI_nat (k := i) (by omega) (map_get gk), rfl, ?_⟩
        rw [Int.zero_add]
        by_cases hc : rs.count (i : Int) = 1
        · rw [if_pos (by rw [hc] <;> rfl)]
          exact hR _ (by show Option.map V.int (if rs.count (0 + (i : Int)) = 1 then _ else _) = _; rw [Int.zero_add, if_pos hc]; rfl)
        · rw [if_neg (by simp; omega)]
          exact hN (by show Option.map V.int (if rs.count (0 + (i : Int)) = 1 then _ else _) = _; rw [Int.zero_add, if_neg hc]; rfl)
      · have e : rngV 0 n.toNat = ((List.range n.toNat).map fun i : Nat => (i : Int)).map V.int := by unfold rngV; rw [List.map_map]; simp only [Int.zero_add]; rfl
        rw [e, fm_fI]
        have asc : (((List.range n.toNat).map fun i : Nat => (i : Int)).filterMap fun i => if rs.count i = 1 then some i else none).Pairwise (· < ·) := by
          refine List.pairwise_filterMap.mpr (List.pairwise_map.mpr (List.pairwise_lt_range.imp fun {a b} hab x hx y hy => ?_))
          split at hx <;> cases hx
          split at hy <;> cases hy
          omega
        have mem : ∀ m, m ∈ (((List.range n.toNat).map fun i : Nat => (i : Int)).filterMap fun i => if rs.count i = 1 then some i else none) ↔ m ∈ rs := fun m => by
          constructor
          · intro hm
            obtain ⟨i, hi, e⟩ := List.mem_filterMap.mp hm
            split at e
            · rename_i hc
              cases e
              exact List.count_pos_iff.mp (by omega)
            · cases e
          · intro hm
            have b := hr m hm
            have c1 : rs.count m = 1 := by have := hk' m; have := List.count_pos_iff.mpr hm; omega
            exact List.mem_filterMap.mpr ⟨m, List.mem_map.mpr ⟨m.toNat, List.mem_range.mpr (by omega), by omega⟩, by rw [if_pos c1]⟩
        have es : (((List.range n.toNat).map fun i : Nat => (i : Int)).filterMap fun i => if rs.count i = 1 then some i else none) = srt rs := by
          refine srt_unique ?_ (lt_le asc)
          exact (List.perm_ext_iff_of_nodup (lt_nodup asc) (rep_none_nodup hrep)).mpr mem
        rw [es]
        refine h _ _ (ext_set x1 (fr_of x1 hD)) ?_
        unfold onceOut
        rw [hrep]
        refine .lst upd_same ?_ (dnInts _ _ _)
        have := fm_len (fun i : Int => if rs.count i = 1 then some i else none) ((List.range n.toNat).map fun i : Nat => (i : Int))
        rw [es, List.length_map, List.length_range] at this
        rw [List.length_map]
        omega
theorem pure_l_sums {K : PySem.W.Frag} (F : KF K) (vs : List V) (H : Hp) (Q : VK) (E : XK) (h : sp_l_sums K vs H Q E) : t_l_sums K E { nx := fun _ H' => Q .non H', rt := Q } (start ["first", "second", "n", "ring", "found", "one", "two"] vs) H := by
  obtain ⟨a, b, n, r, ms, ms', rfl, ha, hb, ok, ok', h⟩ := h
  unfold addOut at h
  by_cases hn : n = r
  · rw [if_pos hn] at h
    refine seqF (ne_b (fun Q q => ⟨_, rfl, q⟩) (fun Q q => ⟨_, rfl, q⟩) rfl (by simp [hn])) ?_
    refine ⟨Nat.zero_le _, fun f hf => ?_⟩
    have x0 : Ext H (upd H f (.lst [])) := ext_new hf
    refine ⟨_, rfl, a, rfl, ⟨_, sqL_of (x0 _ _ ha)⟩, forS (xs := ms.map V.int) (fun i σ H' => ∃ v : Option V, σ = [some (.ref a), some (.ref b), some (.int n), some (.int r), some (.ref f), v, none] ∧ Ext H H' ∧ H' f = some (.lst (((ms.take i).flatMap fun a => ms'.map fun b => (a + b) % n).map V.int))) ⟨_, rfl, x0, upd_same⟩ (fun i σ H' _ ⟨v, e, x1, _⟩ => src_list (sqL_of (x1 _ _ ha))) ?_ ?_⟩
    · rintro i x σ H' e ⟨v, rfl, x1, hf1⟩
      rw [List.getElem?_map] at e
      cases hw : ms[i]? with
      | none => rw [hw] at e; cases e
      | some w =>
        rw [hw] at e
        cases e
        refine ⟨_, rfl, tyL hf1, _, rfl, b, rfl, ⟨_, sqL_of (x1 _ _ hb)⟩, fun D hD => lcF (fI fun j => some ((w + j) % n)) hD (fun H3 x3 => src_list (sqL_of (x3 _ _ (x1 _ _ hb)))) (by have := ok'.len; rw [List.length_map, sizeLine_eq]; omega) ?_ ?_⟩
        · intro x hx H3 e3 R N hR hN
          obtain ⟨j, hj, rfl⟩ := mem_mapI hx
          bv_omega
          refine ⟨by have := ok.n1; omega, ?_⟩
          rw [fmod_pos ok.n1]
          exact hR _ rfl
        · rw [fm_fI, fm_some]
          have fD : f ≠ D := ne_of_none hf1 hD
          have D0 := fr_of x1 hD
          have lens : ((ms.take i).flatMap fun a => ms'.map fun b => (a + b) % n).length ≤ 360 * 360 := by
            have := fl_len (F := fun a => ms'.map fun b => (a + b) % n) (xs := ms.take i) (b := 360) fun x _ => by rw [List.length_map]; exact ok'.len
            have l2 : (ms.take i).length ≤ 360 := by rw [List.length_take]; have := ok.len; omega
            exact Nat.le_trans this (Nat.mul_le_mul_right 360 l2)
          refine ⟨f, D, _, _, rfl, rfl, by rw [upd_ne fD]; exact hf1, upd_same, by have := ok'.len; simp only [List.length_map]; rw [sizeLine_eq]; omega, _, rfl, ext_set (ext_set x1 D0) hf, ?_⟩
          rw [upd_same, List.take_add_one, hw]
          simp
    · rintro σ H1 ⟨v, rfl, x1, hf1⟩
      rw [List.length_map, List.take_length] at hf1
      refine ⟨_, rfl, _, rfl, f, n, _, rfl, hf1, by have := ok.n1; omega, by have := ok.n2; omega, fun r hr => ?_, fun H2 v x2 hv => h H2 v (x1.trans x2) hv⟩
      obtain ⟨i, _, hr⟩ := List.mem_flatMap.mp hr
      obtain ⟨k, _, rfl⟩ := List.mem_map.mp hr
      exact emod_rng ok.n1 _
  · rw [if_neg hn] at h
    refine seqT (ne_b (fun Q q => ⟨_, rfl, q⟩) (fun Q q => ⟨_, rfl, q⟩) rfl (by simp [hn])) ?_
    exact ⟨Nat.le_of_ble_eq_true rfl, fun p hp => h _ _ (ext_new hp) (.tup upd_same (Nat.le_of_ble_eq_true rfl) (.cons (.str _ _) (.nil _)))⟩
theorem out_mul {n f : Int} {ms : List Int} {n' : Int} {l : List Int} (h : mulOut n ms f = .lot n' l) : n = n' := by
  unfold mulOut onceOut at h
  split at h <;> cases h
  rfl
theorem pure_l_products {K : PySem.W.Frag} (F : KF K) (vs : List V) (H : Hp) (Q : VK) (E : XK) (h : sp_l_products K vs H Q E) : t_l_products K E { nx := fun _ H' => Q .non H', rt := Q } (start ["lot", "members", "n", "factor", "due", "member"] vs) H := by
  obtain ⟨a, l, n, f, ms, rfl, L, hl, hf, h⟩ := h
  have ok := L.1
  refine ⟨_, rfl, l, rfl, ⟨_, sqL_of hl⟩, fun D hD => lcF (fI fun i => some ((i * f) % n)) hD (fun H' x => src_list (sqL_of (x _ _ hl))) (by have := ok.len; rw [List.length_map, sizeLine_eq]; omega) ?_ ?_⟩
  · intro x hx H' e R N hR hN
    obtain ⟨i, hi, rfl⟩ := mem_mapI hx
    have := ok.rng i hi
    have := ok.n2
    bv_omega
    refine ⟨wide_mul (a := 10) (b := 400) (by omega) hf (by decide) (by decide) (by decide), by have := ok.n1; omega, ?_⟩
    rw [fmod_pos ok.n1]
    exact hR _ rfl
  · rw [fm_fI, fm_some]
    refine ⟨_, rfl, D, n, _, rfl, upd_same, by have := ok.n1; omega, by have := ok.n2; omega, fun r hr => by obtain ⟨k, _, rfl⟩ := List.mem_map.mp hr; exact emod_rng ok.n1 _, fun H1 u x1 hu => ?_⟩
    have x1' := (ext_new hD).trans x1
    refine ⟨_, rfl, _, rfl, _, rfl, _, rfl, .ref a, .int f, u, 0, n, .mul n ms f, rfl, ⟨rfl, hf, a, rfl, L.ext x1', rfl⟩, hu, fun n' l e => out_mul e, fun H2 x2 => ⟨true, rfl, iteT ?_⟩⟩
    exact ⟨_, rfl, _, rfl, _, rfl, _, rfl, .int f, .ref a, u, 0, n, .rmul n ms f, rfl, ⟨rfl, hf, a, rfl, L.ext (x1'.trans x2), rfl⟩, hu.ext x2, fun n' l e => out_mul e, fun H3 x3 => h H3 ((x1'.trans x2).trans x3)⟩
theorem pure_l_residues {K : PySem.W.Frag} (F : KF K) (vs : List V) (H : Hp) (Q : VK) (E : XK) (h : sp_l_residues K vs H Q E) : t_l_residues K E { nx := fun _ H' => Q .non H', rt := Q } (start ["lot", "members", "n", "part", "member"] vs) H := by
  obtain ⟨a, l, n, m, ms, rfl, L, hl, h⟩ := h
  have ok := L.1
  unfold t_l_residues
  bv_omega
  have bad : (m < 1 ∨ n % m ≠ 0) → ∀ p, H p = none → sp_l_agrees K [.ref a, .int m, .int 2, .int n, .ref p] (upd H p (.tup [.str "NotADivisor", .int m])) Q (fun cls d H => E cls d H) := fun hc p hp =>
    ⟨.ref a, .int m, .ref p, 2, n, .md n ms m, rfl, ⟨rfl, a, rfl, L.ext (ext_new hp), rfl⟩, by show Dn _ 1 _ (dueD (modOut n ms m)); unfold modOut; rw [if_pos hc]; exact .tup upd_same (Nat.le_of_ble_eq_true rfl) (.cons (.str _ _) (.cons (.int _ _) (.nil _))),
      fun n' l e => (by have e : modOut n ms m = .lot n' l := e; unfold modOut at e; rw [if_pos hc] at e; cases e), fun H2 x2 => h H2 ((ext_new hp).trans x2)⟩
  by_cases h1 : m < 1
  · rw [if_pos h1]
    exact ⟨Nat.le_of_ble_eq_true rfl, bad (.inl h1)⟩
  · rw [if_neg h1]
    refine ⟨by omega, rfl, ?_⟩
    rw [fmod_pos (by omega)]
    by_cases h2 : n % m = 0
    · rw [if_neg (by simpa using h2)]
      have hmn : m ≤ n := Int.le_of_dvd (by have := ok.n1; omega) (Int.dvd_of_emod_eq_zero h2)
      refine ⟨_, rfl, l, rfl, ⟨_, sqL_of hl⟩, fun D hD => lcF (fI fun i => some (i % m)) hD (fun H' x => src_list (sqL_of (x _ _ hl))) (by have := ok.len; rw [List.length_map, sizeLine_eq]; omega) ?_ ?_⟩
      · intro x hx H' e R N hR hN
        obtain ⟨i, hi, rfl⟩ := mem_mapI hx
        bv_omega
        refine ⟨by omega, ?_⟩
        rw [fmod_pos (by omega)]
        exact hR _ rfl
      · rw [fm_fI, fm_some]
        refine ⟨D, m, _, rfl, upd_same, by omega, by have := ok.n2; omega, fun r hr => by obtain ⟨k, _, rfl⟩ := List.mem_map.mp hr; exact emod_rng (by omega) _, fun H1 u x1 hu => ?_⟩
        have x1' := (ext_new hD).trans x1
        have eo : modOut n ms m = onceOut m (ms.map fun a => a % m) := by unfold modOut; rw [if_neg (by omega)]
        refine ⟨.ref a, .int m, u, 2, m, .md n ms m, rfl, ⟨rfl, a, rfl, L.ext x1', rfl⟩, by show Dn _ 1 _ (dueD (modOut n ms m)); rw [eo]; exact hu, fun n' l e => ?_, fun H2 x2 => h H2 (x1'.trans x2)⟩
        have e : modOut n ms m = .lot n' l := e
        rw [eo] at e
        unfold onceOut at e
        split at e <;> cases e
        rfl
    · rw [if_pos (by simpa using h2)]
      exact ⟨Nat.le_of_ble_eq_true rfl, bad (.inr h2)⟩
theorem pure_l_copied {K : PySem.W.Frag} (F : KF K) (vs : List V) (H : Hp) (Q : VK) (E : XK) (h : sp_l_copied K vs H Q E) : t_l_copied K E { nx := fun _ H' => Q .non H', rt := Q } (start ["lot", "members", "n", "times", "due", "lap", "member"] vs) H := by
  obtain ⟨a, l, n, t, ms, rfl, L, hl, t0, t1, h⟩ := h
  have ok := L.1
  have k1 := ok.n1
  have k2 := ok.n2
  have wm : CMulW n t := wide_mul (a := 10) (b := 400) (by omega) (by omega) (by decide) (by decide) (by decide)
  have bad : ∀ (nm : Str) (v : Int), powOut n ms t = .bad nm v → ∀ p, H p = none → sp_l_agrees K [.ref a, .int t, .int 3, .int n, .ref p] (upd H p (.tup [.str "BadNumber", .str nm, .int v])) Q (fun cls d H => E cls d H) := fun nm v eo p hp =>
    ⟨.ref a, .int t, .ref p, 3, n, .pw n ms t, rfl, ⟨rfl, t0, t1, a, rfl, L.ext (ext_new hp), rfl⟩, by show Dn _ 1 _ (dueD (powOut n ms t)); rw [eo]; exact .tup upd_same (Nat.le_of_ble_eq_true rfl) (.cons (.str _ _) (.cons (.str _ _) (.cons (.int _ _) (.nil _)))),
      fun n' l e => (by have e : powOut n ms t = .lot n' l := e; rw [eo] at e; cases e), fun H2 x2 => h H2 ((ext_new hp).trans x2)⟩
  by_cases h1 : t < 1
  · unfold t_l_copied
    bv_omega
    rw [if_pos h1]
    exact ⟨Nat.le_of_ble_eq_true rfl, bad "times" t (by unfold powOut; rw [if_pos h1])⟩
  · by_cases h2 : 360 < n * t
    · unfold t_l_copied
      bv_omega
      rw [if_neg h1]
      refine ⟨wm, ?_⟩
      rw [if_pos h2]
      exact ⟨wm, Nat.le_of_ble_eq_true rfl, bad "hours" (n * t) (by unfold powOut; rw [if_neg h1, if_pos h2])⟩
    · have eo : powOut n ms t = .lot (n * t) (copies n ms t) := by unfold powOut; rw [if_neg h1, if_neg h2]
      refine seqF (fun R r => ⟨_, rfl, _, _, rfl, rfl, _, rfl, by rw [decide_eq_false h1]; exact r⟩) (seqF (fun R r => ⟨_, rfl, _, rfl, _, _, rfl, rfl, wm, _, _, rfl, rfl, _, rfl, by rw [decide_eq_false h2]; exact r⟩) ?_)
      refine ⟨Nat.zero_le _, fun f hf => ?_⟩
      have x0 : Ext H (upd H f (.lst [])) := ext_new hf
      refine ⟨_, rfl, t, rfl, by omega, by omega, forS (xs := rngV 0 t.toNat) (fun i σ H' => i ≤ t.toNat ∧ ∃ (v : Option V) (g : Addr), σ = [some (.ref a), some (.ref l), some (.int n), some (.int t), some (.ref g), v, none] ∧ Ext H H' ∧ H' g = some (.lst ((copies n ms i).map V.int))) ⟨Nat.zero_le _, _, f, rfl, x0, upd_same⟩ (fun _ _ _ _ _ => src_rng) ?_ ?_⟩
      · rintro i x σ H' e ⟨hi, v, g, rfl, x1, hg⟩
        rw [rngV_get] at e
        by_cases hi2 : i < t.toNat
        · rw [if_pos hi2] at e
          cases e
          refine ⟨_, rfl, _, rfl, l, rfl, ⟨_, sqL_of (x1 _ _ hl)⟩, fun D hD => lcF (fI fun j => some (j + (i : Int) * n)) hD (fun H3 x3 => src_list (sqL_of (x3 _ _ (x1 _ _ hl)))) (by have := ok.len; rw [List.length_map, sizeLine_eq]; omega) ?_ ?_⟩
          · intro x hx H3 e3 R N hR hN
            obtain ⟨j, hj, rfl⟩ := mem_mapI hx
            bv_omega
            refine ⟨wide_mul (a := 20) (b := 10) (by omega) (by omega) (by decide) (by decide) (by decide), ?_⟩
            rw [Int.zero_add]
            exact hR _ rfl
          · rw [fm_fI, fm_some]
            have gD : g ≠ D := ne_of_none hg hD
            have D0 := fr_of x1 hD
            have lc := copies_len ok (t := (i : Int)) (by have : n * (i : Int) ≤ n * t := Int.mul_le_mul_of_nonneg_left (by omega) (by omega); omega) (by omega)
            refine ⟨g, D, _, _, rfl, rfl, by rw [upd_ne gD]; exact hg, upd_same, by have := ok.len; simp only [List.length_map]; rw [sizeLine_eq]; omega, fun g2 hg2 => ⟨by omega, _, g2, rfl, ext_set (ext_set x1 D0) (fr_of (ext_set x1 D0) hg2), ?_⟩⟩
            rw [upd_same]
            unfold copies
            rw [show ((i + 1 : Nat) : Int).toNat = i + 1 by omega, show ((i : Nat) : Int).toNat = i by omega, List.range_succ]
            simp
        · rw [if_neg hi2] at e
          cases e
      · rintro σ H1 ⟨_, v, g, rfl, x1, hg⟩
        rw [rngV_len, show ((t.toNat : Nat) : Int) = t by omega] at hg
        have lc := copies_len ok (t := t) (by omega) t0
        exact ⟨_, rfl, _, rfl, _, rfl, _, rfl, _, _, rfl, rfl, wm, _, rfl, .ref a, .int t, .ref g, 3, n * t, .pw n ms t, rfl, ⟨rfl, t0, t1, a, rfl, L.ext x1, rfl⟩, by show Dn _ 1 _ (dueD (powOut n ms t)); rw [eo]; exact .lst hg (by rw [List.length_map]; omega) (dnInts _ _ _), fun n' l e => by have e : powOut n ms t = .lot n' l := e; rw [eo] at e; cases e; rfl, fun H2 x2 => h H2 (x1.trans x2)⟩
theorem out_add {n r : Int} {ms ms' : List Int} {n' : Int} {l : List Int} (h : (Deed.add n ms r ms').out = .lot n' l) : n = n' := by
  have h : addOut n ms r ms' = .lot n' l := h
  unfold addOut onceOut at h
  split at h
  · split at h <;> cases h
    rfl
  · cases h
theorem law_end {K : PySem.W.Frag} (F : KF K) {E : XK} {Q : VK} {H : Hp} {a q f g pr one two : Addr} {n ring fa t : Int} {v7 : V} {m : Int} {ms ms' : List Int} (hv7 : v7 = .int m) (hf : H f = some (.lst (ms.map V.int))) (hg : H g = some (.lst (ms'.map V.int))) (L1 : LotAt K H one n ms) (L2 : LotAt K H two ring ms')
    (fb : fa.natAbs < 2 ^ 400) (t0 : 0 ≤ t) (t1 : t ≤ 64) (h : ∀ H', Q (.bl true) H') :
    t_law_11 K E { nx := fun _ H' => Q .non H', rt := Q } [some (.ref a), some (.ref q), some (.int n), some (.int ring), some (.ref f), some (.ref g), some (.ref pr), some v7, some (.int fa), some (.int t), some (.ref one), some (.ref two), none] H := by
  subst hv7
  have fin : ∀ {H1 : Hp}, Ext H H1 → (H1 f = some (.lst (ms.map V.int)) ∧ H1 g = some (.lst (ms'.map V.int)) ∧ LotAt K H1 one n ms ∧ LotAt K H1 two ring ms') := fun x => ⟨x _ _ hf, x _ _ hg, L1.ext x, L2.ext x⟩
  unfold t_law_11
  refine KB.seqF (KB.orF (KB.not (KV.test fun R r => ⟨_, rfl, _, rfl, _, rfl, _, rfl, one, f, n, fa, ms, rfl, L1, hf, fb, r⟩) rfl) fun H1 x1 => KB.not (KV.test fun R r => ⟨_, rfl, _, rfl, _, rfl, _, rfl, two, g, ring, fa, ms', rfl, L2.ext x1, x1 _ _ hg, fb, r⟩) rfl) fun H1 x1 => ?_
  refine KB.seqF (KB.not (KV.test fun R r => ⟨_, rfl, _, rfl, _, rfl, _, rfl, _, rfl, _, rfl, _, rfl, f, g, n, ring, ms, ms', rfl, x1 _ _ hf, x1 _ _ hg, L1.1, L2.1, fun H2 u x2 hu => ⟨.ref one, .ref two, u, 1, n, .add n ms ring ms', rfl, ⟨rfl, one, two, rfl, L1.ext (x1.trans x2), rfl, L2.ext (x1.trans x2)⟩, hu, fun _ _ e => out_add e, fun H3 x3 => r H3 (x2.trans x3)⟩⟩) rfl) fun H2 y2 => ?_
  have x2 := x1.trans y2
  refine KB.seqF (KB.not (KV.test fun R r => ⟨_, rfl, _, rfl, _, rfl, _, rfl, _, rfl, _, rfl, _, rfl, g, f, ring, n, ms', ms, rfl, x2 _ _ hg, x2 _ _ hf, L2.1, L1.1, fun H3 u x3 hu => ⟨.ref two, .ref one, u, 1, ring, .add ring ms' n ms, rfl, ⟨rfl, two, one, rfl, L2.ext (x2.trans x3), rfl, L1.ext (x2.trans x3)⟩, hu, fun _ _ e => out_add e, fun H4 x4 => r H4 (x3.trans x4)⟩⟩) rfl) fun H3 y3 => ?_
  have x3 := x2.trans y3
  refine KB.seqF (KB.orF (KB.not (KV.test fun R r => ⟨_, rfl, _, rfl, _, rfl, _, rfl, one, f, n, m, ms, rfl, L1.ext x3, x3 _ _ hf, r⟩) rfl) fun H4 x4 => KB.not (KV.test fun R r => ⟨_, rfl, _, rfl, _, rfl, _, rfl, two, g, ring, m, ms', rfl, L2.ext (x3.trans x4), (x3.trans x4) _ _ hg, r⟩) rfl) fun H4 y4 => ?_
  have x4 := x3.trans y4
  have tm := emod_rng (n := 4) (by decide) t
  refine KB.seqF (KB.orF (KB.not (KV.test fun R r => ⟨_, rfl, _, rfl, _, rfl, _, rfl, one, f, n, t, ms, rfl, L1.ext x4, x4 _ _ hf, t0, t1, r⟩) rfl) fun H5 x5 => KB.not (KV.test fun R r => ⟨_, rfl, _, rfl, _, rfl, _, rfl, .inl ⟨t, rfl, t, 4, rfl, rfl, (by decide : (4 : Int) ≠ 0), two, g, ring, t.fmod 4, ms', rfl, L2.ext (x4.trans x5), (x4.trans x5) _ _ hg, by rw [fmod_pos (by decide)]; omega, by rw [fmod_pos (by decide)]; omega, r⟩⟩) rfl) fun H5 y5 => ?_
  have x5 := x4.trans y5
  exact ⟨_, rfl, _, rfl, _, rfl, one, f, n, ms, rfl, L1.ext x5, x5 _ _ hf, fun H6 y6 => ⟨true, rfl, iteT ⟨_, rfl, _, rfl, _, rfl, two, g, ring, ms', rfl, L2.ext (x5.trans y6), (x5.trans y6) _ _ hg, fun H7 _ => h H7⟩⟩⟩
theorem rising_ok {n : Int} {ms : List Int} (n1 : 1 ≤ n) (n2 : n ≤ 360) (h : Rising n ms) : LotOk n ms := ⟨n1, n2, h.1, h.2⟩
theorem law_mid {K : PySem.W.Frag} (F : KF K) {E : XK} {Q : VK} {H : Hp} {a q f g pr : Addr} {n ring : Int} {ns ms ms' : List Int} {v7 : Option V} (hS : SqL K H a (ns.map V.int)) (hf : H f = some (.lst (ms.map V.int))) (hg : H g = some (.lst (ms'.map V.int))) (r1 : LotOk n ms) (r2 : LotOk ring ms')
    (h : ∀ H', Q (.bl true) H') :
    t_law_8 K E { nx := fun _ H' => Q .non H', rt := Q } [some (.ref a), some (.ref q), some (.int n), some (.int ring), some (.ref f), some (.ref g), some (.ref pr), v7, none, none, none, none, none] H := by
  have l1 := r1.len
  have l2 := r2.len
  have e1 : ms.map (fun m => m % n) = ms := mod_id r1.rng
  have e2 : ms'.map (fun m => m % ring) = ms' := mod_id r2.rng
  refine ⟨_, rfl, _, rfl, a, ns, n, rfl, hS, r1.n1, by have := r1.n2; omega, fun H1 p fa pa t x1 hp fb t0 t1 => ?_⟩
  refine ⟨p, _, rfl, sqT_of hp, rfl, _, _, rfl, _, _, rfl, _, _, rfl, rfl, ?_⟩
  refine ⟨_, rfl, _, rfl, f, _, rfl, .inl (sqL_of (x1 _ _ hf)), fun l hl => ?_⟩
  have x2 : Ext H (upd H1 l (.lst (ms.map V.int))) := ext_set x1 (fr_of x1 hl)
  refine fun x dx hx hdx hne => made_lot (Qx := fun one H2 => gName 10 (.ref one) _ H2 _) (H1 := upd H1 l (.lst (ms.map V.int))) (l := l) (ms := ms) (sqL_of upd_same) r1.n1 r1.n2 (by omega) (by rw [e1]; exact lt_nodup r1.asc) (fun H2 one x3 L1 => ?_) x dx hx hdx hne
  rw [e1, srt_of_le (lt_le r1.asc)] at L1
  have x4 := x2.trans x3
  refine ⟨_, rfl, _, rfl, g, _, rfl, .inl (sqL_of (x4 _ _ hg)), fun l' hl' => ?_⟩
  have x5 : Ext H2 (upd H2 l' (.lst (ms'.map V.int))) := ext_new hl'
  refine fun x dx hx hdx hne => made_lot (Qx := fun two H3 => gName 11 (.ref two) _ H3 _) (H1 := upd H2 l' (.lst (ms'.map V.int))) (l := l') (ms := ms') (sqL_of upd_same) r2.n1 r2.n2 (by omega) (by rw [e2]; exact lt_nodup r2.asc) (fun H3 two x6 L2 => ?_) x dx hx hdx hne
  rw [e2, srt_of_le (lt_le r2.asc)] at L2
  have x7 := x5.trans x6
  exact law_end F rfl ((x4.trans x7) _ _ hf) ((x4.trans x7) _ _ hg) (L1.ext x7) L2 fb t0 t1 h
theorem rising_filter {n : Int} {ms : List Int} (h : Rising n ms) (p : Int → Bool) : Rising n (ms.filter p) := ⟨h.1.sublist List.filter_sublist, fun m hm => h.2 m (List.mem_filter.mp hm).1⟩
theorem law_four {K : PySem.W.Frag} (F : KF K) {E : XK} {Q : VK} {H : Hp} {a q : Addr} {n ring : Int} {ns ws : List Int} (hS : SqL K H a (ns.map V.int)) (hq : H q = some (.lst (ws.map V.int))) (n1 : 1 ≤ n) (n2 : n ≤ 360) (r1 : 1 ≤ ring) (r2 : ring ≤ 360) (hl : ws.length = 9)
    (h : ∀ H', Q (.bl true) H') :
    t_law_4 K E { nx := fun _ H' => Q .non H', rt := Q } [some (.ref a), some (.ref q), some (.int n), some (.int ring), none, none, none, none, none, none, none, none, none] H := by
  match ws, hl with
  | [w0, w1, w2, w3, w4, w5, w6, w7, w8], _ =>
  unfold t_law_4
  refine ⟨_, rfl, a, ns, 1, rfl, hS, fun r r0 => ⟨_, rfl, _, rfl, q, _, 5, _, rfl, rfl, sqL_of hq, rfl, r, 26, n, w5, rfl, r0, by decide, by decide, by omega, by omega, fun H1 f ms x1 _ hf rf => ?_⟩⟩
  refine ⟨_, rfl, a, ns, 2, rfl, sqL_ext x1 hS, fun r' r0' => ⟨_, rfl, _, rfl, q, _, 6, _, rfl, rfl, sqL_of (x1 _ _ hq), rfl, r', 40, ring, w6, rfl, r0', by decide, by decide, by omega, by omega, fun H2 g ms' x2 _ hg rg => ?_⟩⟩
  refine ⟨_, rfl, n, rfl, n1, by omega, fun H3 pr ds x3 _ hpr dne dd => ?_⟩
  have y2 := x1.trans x2
  have y3 := y2.trans x3
  have hq3 := y3 _ _ hq
  have hf3 := (x2.trans x3) _ _ hf
  have hg3 := x3 _ _ hg
  by_cases hw : w7 = 1
  · refine ⟨_, rfl, q, _, 7, _, rfl, rfl, sqL_of hq3, rfl, rfl, _, rfl, iteT_of (by simp [hw]) ?_⟩
    have dl : 0 < ds.length := List.length_pos_iff.mpr dne
    have b8 := emod_rng (n := (ds.length : Nat)) (by omega) w8
    obtain ⟨pt, hpt, ept⟩ := atI_map (fl := ds) (i := w8 % (ds.length : Nat)) b8.1 b8.2
    have bp := dd pt hpt
    refine ⟨_, rfl, _, rfl, q, _, 8, _, rfl, rfl, sqL_of hq3, rfl, .inl ⟨w8, rfl, _, rfl, pr, _, rfl, .inl (sqL_of hpr), w8, _, rfl, rfl, by rw [List.length_map]; omega, pr, _, _, _, rfl, rfl, sqL_of hpr, by rw [List.length_map, fmod_pos (by omega)]; exact ept, ?_⟩⟩
    refine ⟨_, rfl, f, rfl, ⟨_, sqL_of hf3⟩, fun D hD => lcF (fI fun i => if i < pt then some i else none) hD (fun H' x => src_list (sqL_of (x _ _ hf3))) (by have := (rising_ok n1 n2 rf).len; rw [List.length_map, sizeLine_eq]; omega) ?_ ?_⟩
    · intro x hx H' e R N hR hN
      obtain ⟨i, hi, rfl⟩ := mem_mapI hx
      bv_omega
      by_cases hc : i < pt
      · rw [if_pos hc]
        exact hR _ (by show Option.map V.int (if _ then _ else _) = _; rw [if_pos hc]; rfl)
      · rw [if_neg hc]
        exact hN (by show Option.map V.int (if _ then _ else _) = _; rw [if_neg hc]; rfl)
    · rw [fm_fI]
      have x4 : Ext H3 (upd H3 D (.lst ((ms.filterMap fun i => if i < pt then some i else none).map V.int))) := ext_new hD
      refine ⟨_, rfl, g, rfl, ⟨_, sqL_of (x4 _ _ hg3)⟩, fun D2 hD2 => lcF (fI fun i => if i % pt = 0 then some i else none) hD2 (fun H' x => src_list (sqL_of (x _ _ (x4 _ _ hg3)))) (by have := (rising_ok r1 r2 rg).len; rw [List.length_map, sizeLine_eq]; omega) ?_ ?_⟩
      · intro x hx H' e R N hR hN
        obtain ⟨i, hi, rfl⟩ := mem_mapI hx
        bv_omega
        refine ⟨by omega, rfl, ?_⟩
        rw [fmod_pos bp.1]
        by_cases hc : i % pt = 0
        · rw [if_pos hc]
          exact hR _ (by show Option.map V.int (if _ then _ else _) = _; rw [if_pos hc]; rfl)
        · rw [if_neg hc]
          exact hN (by show Option.map V.int (if _ then _ else _) = _; rw [if_neg hc]; rfl)
      · rw [fm_fI]
        have DD : D ≠ D2 := fun z => by rw [← z, upd_same] at hD2; cases hD2
        have fil : ∀ (p : Int → Prop) [DecidablePred p] (l : List Int), (l.filterMap fun i => if p i then some i else none) = l.filter fun i => decide (p i) := fun p _ l => by
          induction l with
          | nil => rfl
          | cons b r ih => by_cases h : p b <;> simp [h, ih]
        have x5 := ext_set (o := .lst ((ms'.filterMap fun i => if i % pt = 0 then some i else none).map V.int)) x4 (fr_of x4 hD2)
        exact law_mid F (sqL_ext (y3.trans x5) hS) (by rw [upd_ne DD, upd_same]) upd_same (rising_ok n1 n2 (by rw [fil]; exact rising_filter rf _)) (rising_ok r1 r2 (by rw [fil]; exact rising_filter rg _)) h
  · refine ⟨_, rfl, q, _, 7, _, rfl, rfl, sqL_of hq3, rfl, rfl, _, rfl, iteF_of (by simp [hw]) ?_⟩
    exact law_mid F (sqL_ext y3 hS) hf3 hg3 (rising_ok n1 n2 rf) (rising_ok r1 r2 rg) h
theorem pure_law {K : PySem.W.Frag} (F : KF K) (vs : List V) (H : Hp) (Q : VK) (E : XK) (h : sp_law K vs H Q E) : t_law K E { nx := fun _ H' => Q .non H', rt := Q } (start ["script", "ways", "n", "ring", "first", "second", "parts", "part", "factor", "times", "one", "two", "h"] vs) H := by
  obtain ⟨a, ns, rfl, hS, h⟩ := h
  unfold t_law
  refine ⟨_, rfl, a, ns, 0, rfl, hS, fun r r0 => ⟨Nat.le_of_ble_eq_true rfl, fun p hp => ?_⟩⟩
  refine ⟨r, 152, p, [8, 12, 24, 360, 8, 8, 8, 2, 24], rfl, r0, by decide, by decide, sqL_of upd_same, by decide, by decide, fun H1 q ws x1 _ hq hl hb => ?_⟩
  have y1 : Ext H H1 := (ext_new hp).trans x1
  match ws, hl with
  | [w0, w1, w2, w3, w4, w5, w6, w7, w8], _ =>
  have b0 := hb 0 w0 8 rfl rfl
  have b1 := hb 1 w1 12 rfl rfl
  have b2 := hb 2 w2 24 rfl rfl
  have b3 := hb 3 w3 360 rfl rfl
  refine ⟨_, rfl, q, _, 3, _, rfl, rfl, sqL_of hq, rfl, _, _, rfl, rfl, _, rfl, q, _, 2, _, rfl, rfl, sqL_of hq, rfl, _, _, rfl, rfl, _, rfl, q, _, 2, _, rfl, rfl, sqL_of hq, rfl, _, _, rfl, rfl, _, rfl, q, _, 1, _, rfl, rfl, sqL_of hq, rfl, _, _, rfl, rfl, Nat.le_of_ble_eq_true rfl, fun D hD => ?_⟩
  have qD : q ≠ D := ne_of_none hq hD
  have x2 : Ext H1 (upd H1 D (.lst ([1 + w3, 1 + w2, 1 + w2, 1 + w1].map V.int))) := ext_new hD
  have hq2 := x2 _ _ hq
  have bi : 0 ≤ (if w0 < 3 then w0 else 3) ∧ (if w0 < 3 then w0 else 3) < (4 : Nat) := by split <;> omega
  obtain ⟨n, hn, en⟩ := atI_map (fl := [1 + w3, 1 + w2, 1 + w2, 1 + w1]) (i := if w0 < 3 then w0 else 3) bi.1 bi.2
  have bn : 1 ≤ n ∧ n ≤ 360 := by
    simp only [List.mem_cons, List.not_mem_nil, or_false] at hn
    omega
  refine ⟨_, rfl, q, _, 0, _, rfl, rfl, sqL_of hq2, rfl, 3, w0, rfl, D, _, _, _, rfl, rfl, sqL_of upd_same, en, _, rfl, ?_⟩
  have y2 := y1.trans x2
  by_cases hw : w4 = 0
  · refine ⟨_, rfl, q, _, 4, _, rfl, rfl, sqL_of hq2, rfl, rfl, _, rfl, iteT_of (by simp [hw]) ?_⟩
    have bm := emod_rng (n := 360) (by decide) n
    have : n.fmod 360 = n % 360 := fmod_pos (by decide) n
    refine ⟨_, rfl, .inl ⟨n, rfl, n, 360, rfl, rfl, (by decide : (360 : Int) ≠ 0), _, _, rfl, rfl, law_four F (sqL_ext y2 hS) hq2 bn.1 bn.2 (by omega) (by omega) rfl h⟩⟩
  · refine ⟨_, rfl, q, _, 4, _, rfl, rfl, sqL_of hq2, rfl, rfl, _, rfl, iteF_of (by simp [hw]) ?_⟩
    exact law_four F (sqL_ext y2 hS) hq2 bn.1 bn.2 bn.1 bn.2 rfl h
end Bw

namespace K02
open PySem PySem.Spec PyProof.Rows L2 Bw
abbrev Pg : Program := PySem.Challenge.pw_beatswatched_k02_lot_products
def top (i : Nat) : Stmt := Pg.main.body.getD i (.Pass ⟨0, 0, 0, 0⟩)
def theFile : PySem.Str := Pg.main.file
def d_hours_checked : DX := ⟨fun K => (He.ga K "hours_checked"), "hours_checked", "hours_checked", top 9, []⟩
def d_rings_checked : DX := ⟨fun K => (He.ga K "rings_checked"), "rings_checked", "rings_checked", top 10, []⟩
def d_each_once : DX := ⟨fun K => (He.ga K "each_once"), "each_once", "each_once", top 13, []⟩
def d_Lot_init : DX := ⟨fun K => (He.ma K (He.ga K "Lot") "__init__"), "__init__", "Lot.__init__", inClass (top 14) 1, []⟩
def d_Lot_members : DX := ⟨fun K => (getter K (He.ga K "Lot") "members"), "members", "Lot.members", inClass (top 14) 3, []⟩
def d_Lot_len : DX := ⟨fun K => (He.ma K (He.ga K "Lot") "__len__"), "__len__", "Lot.__len__", inClass (top 14) 6, []⟩
def d_Lot_mul : DX := ⟨fun K => (He.ma K (He.ga K "Lot") "__mul__"), "__mul__", "Lot.__mul__", inClass (top 14) 16, []⟩
def d_Lot_rmul : DX := ⟨fun K => (He.ma K (He.ga K "Lot") "__rmul__"), "__rmul__", "Lot.__rmul__", inClass (top 14) 17, []⟩
def d_Lot_add : DX := ⟨fun K => (He.ma K (He.ga K "Lot") "__add__"), "__add__", "Lot.__add__", inClass (top 14) 18, []⟩
def d_Lot_mod : DX := ⟨fun K => (He.ma K (He.ga K "Lot") "__mod__"), "__mod__", "Lot.__mod__", inClass (top 14) 19, []⟩
def d_Lot_pow : DX := ⟨fun K => (He.ma K (He.ga K "Lot") "__pow__"), "__pow__", "Lot.__pow__", inClass (top 14) 20, []⟩
def d_l_cell : DX := ⟨fun K => (He.ga K "_law_cell"), "_law_cell", "_law_cell", top 16, []⟩
def d_l_draws : DX := ⟨fun K => (He.ga K "_law_draws"), "_law_draws", "_law_draws", top 17, []⟩
def d_l_is_int : DX := ⟨fun K => (He.ga K "_law_is_int"), "_law_is_int", "_law_is_int", top 18, []⟩
def d_l_same : DX := ⟨fun K => (He.ga K "_law_same"), "_law_same", "_law_same", top 19, []⟩
def d_l_digits : DX := ⟨fun K => (He.ga K "_law_digits"), "_law_digits", "_law_digits", top 20, []⟩
def d_l_bits : DX := ⟨fun K => (He.ga K "_law_bits"), "_law_bits", "_law_bits", top 21, []⟩
def d_l_subset : DX := ⟨fun K => (He.ga K "_law_subset"), "_law_subset", "_law_subset", top 22, []⟩
def d_l_drawn_lot : DX := ⟨fun K => (He.ga K "_law_drawn_lot"), "_law_drawn_lot", "_law_drawn_lot", top 23, []⟩
def d_l_divisors : DX := ⟨fun K => (He.ga K "_law_divisors"), "_law_divisors", "_law_divisors", top 24, []⟩
def d_l_numbers : DX := ⟨fun K => (He.ga K "_law_numbers"), "_law_numbers", "_law_numbers", top 25, []⟩
def d_l_copies_to_21 : DX := ⟨fun K => (He.ga K "_law_copies_to_21"), "_law_copies_to_21", "_law_copies_to_21", top 26, []⟩
def d_l_copies_to_43 : DX := ⟨fun K => (He.ga K "_law_copies_to_43"), "_law_copies_to_43", "_law_copies_to_43", top 27, []⟩
def d_l_copies_to_64 : DX := ⟨fun K => (He.ga K "_law_copies_to_64"), "_law_copies_to_64", "_law_copies_to_64", top 28, []⟩
def d_l_copies : DX := ⟨fun K => (He.ga K "_law_copies"), "_law_copies", "_law_copies", top 29, []⟩
def d_l_done : DX := ⟨fun K => (He.ga K "_law_done"), "_law_done", "_law_done", top 30, []⟩
def d_l_told : DX := ⟨fun K => (He.ga K "_law_told"), "_law_told", "_law_told", top 31, []⟩
def d_l_kinds : DX := ⟨fun K => (He.ga K "_law_kinds"), "_law_kinds", "_law_kinds", top 32, []⟩
def d_l_is_lot : DX := ⟨fun K => (He.ga K "_law_is_lot"), "_law_is_lot", "_law_is_lot", top 33, []⟩
def d_l_agrees : DX := ⟨fun K => (He.ga K "_law_agrees"), "_law_agrees", "_law_agrees", top 34, []⟩
def d_l_once : DX := ⟨fun K => (He.ga K "_law_once"), "_law_once", "_law_once", top 35, []⟩
def d_l_sums : DX := ⟨fun K => (He.ga K "_law_sums"), "_law_sums", "_law_sums", top 36, []⟩
def d_l_products : DX := ⟨fun K => (He.ga K "_law_products"), "_law_products", "_law_products", top 37, []⟩
def d_l_residues : DX := ⟨fun K => (He.ga K "_law_residues"), "_law_residues", "_law_residues", top 38, []⟩
def d_l_copied : DX := ⟨fun K => (He.ga K "_law_copied"), "_law_copied", "_law_copied", top 39, []⟩
def d_law : DX := ⟨fun K => (He.ga K "law"), "law", "law", top 40, []⟩
def d_first_repeated : DX := ⟨fun K => (He.ga K "first_repeated"), "first_repeated", "first_repeated", top 12, []⟩
def d_BadNumber_init : DX := ⟨fun K => (He.ma K (He.ga K "BadNumber") "__init__"), "__init__", "BadNumber.__init__", inClass (top 3) 0, [("__class__" : PySem.Str)]⟩
def d_Meets_init : DX := ⟨fun K => (He.ma K (He.ga K "Meets") "__init__"), "__init__", "Meets.__init__", inClass (top 5) 0, [("__class__" : PySem.Str)]⟩
def d_RepeatedHour_init : DX := ⟨fun K => (He.ma K (He.ga K "RepeatedHour") "__init__"), "__init__", "RepeatedHour.__init__", inClass (top 4) 0, [("__class__" : PySem.Str)]⟩
def d_NotADivisor_init : DX := ⟨fun K => (He.ma K (He.ga K "NotADivisor") "__init__"), "__init__", "NotADivisor.__init__", inClass (top 7) 0, [("__class__" : PySem.Str)]⟩
def fn_0 : List (DX) := [
  d_hours_checked,
  d_rings_checked,
  d_each_once,
  d_Lot_init,
  d_Lot_members,
  d_Lot_len,
  d_Lot_mul,
  d_Lot_rmul,
  d_Lot_add,
  d_Lot_mod]
def fn_1 : List (DX) := [
  d_Lot_pow,
  d_l_cell,
  d_l_draws,
  d_l_is_int,
  d_l_same,
  d_l_digits,
  d_l_bits,
  d_l_subset,
  d_l_drawn_lot,
  d_l_divisors]
def fn_2 : List (DX) := [
  d_l_numbers,
  d_l_copies_to_21,
  d_l_copies_to_43,
  d_l_copies_to_64,
  d_l_copies,
  d_l_done,
  d_l_told,
  d_l_kinds,
  d_l_is_lot,
  d_l_agrees]
def fn_3 : List (DX) := [
  d_l_once,
  d_l_sums,
  d_l_products,
  d_l_residues,
  d_l_copied,
  d_law,
  d_first_repeated,
  d_BadNumber_init,
  d_Meets_init,
  d_RepeatedHour_init]
def fn_4 : List (DX) := [
  d_NotADivisor_init]
def fn : List (DX) := fn_0 ++ (fn_1 ++ (fn_2 ++ (fn_3 ++ (fn_4))))
def fl_0 : List (PySem.W.Frag → Bool) := [
  fun K => (He.Fa.cls "Lot").ok K,
  fun K => (He.Fa.noat "Lot" "hours").ok K,
  fun K => (He.Fa.exc "OtherHours").ok K,
  fun K => (He.Fa.glo "OtherHours").ok K,
  fun K => (He.Fa.free "int").ok K,
  fun K => (He.Fa.free "sorted").ok K,
  fun K => (He.Fa.free "len").ok K,
  fun K => (He.Fa.free "range").ok K,
  fun K => conB K (He.ga K "Lot") "MOST" 360,
  fun K => (He.Fa.glo "hours_checked").ok K]
def fl_1 : List (PySem.W.Frag → Bool) := [
  fun K => (He.Fa.keep "hours_checked").ok K,
  fun K => (He.Fa.free "set").ok K,
  fun K => (He.Fa.glo "first_repeated").ok K,
  fun K => (He.Fa.keep "first_repeated").ok K,
  fun K => (He.Fa.noat "Lot" "_members").ok K,
  fun K => (He.Fa.free "list").ok K,
  fun K => (He.Fa.glo "each_once").ok K,
  fun K => (He.Fa.keep "each_once").ok K,
  fun K => (He.Fa.mkr "Lot").ok K,
  fun K => (He.Fa.glo "Lot").ok K]
def fl_2 : List (PySem.W.Frag → Bool) := [
  fun K => opFB K (He.ga K "Lot") "mul",
  fun K => (He.Fa.glo "rings_checked").ok K,
  fun K => (He.Fa.keep "rings_checked").ok K,
  fun K => (He.Fa.free "abs").ok K,
  fun K => (He.Fa.free "isinstance").ok K,
  fun K => (He.Fa.free "bool").ok K,
  fun K => (He.Fa.glo "_law_is_int").ok K,
  fun K => (He.Fa.keep "_law_is_int").ok K,
  fun K => (He.Fa.free "str").ok K,
  fun K => (He.Fa.free "tuple").ok K]
def fl_3 : List (PySem.W.Frag → Bool) := [
  fun K => (He.Fa.glo "_law_same").ok K,
  fun K => (He.Fa.keep "_law_same").ok K,
  fun K => (He.Fa.glo "_law_draws").ok K,
  fun K => (He.Fa.keep "_law_draws").ok K,
  fun K => (He.Fa.glo "_law_bits").ok K,
  fun K => (He.Fa.keep "_law_bits").ok K,
  fun K => (He.Fa.glo "_law_subset").ok K,
  fun K => (He.Fa.keep "_law_subset").ok K,
  fun K => (He.Fa.glo "_law_cell").ok K,
  fun K => (He.Fa.keep "_law_cell").ok K]
def fl_4 : List (PySem.W.Frag → Bool) := [
  fun K => (He.Fa.glo "_law_digits").ok K,
  fun K => (He.Fa.keep "_law_digits").ok K,
  fun K => (He.Fa.glo "_law_divisors").ok K,
  fun K => (He.Fa.keep "_law_divisors").ok K,
  fun K => opFB K (He.ga K "Lot") "pow",
  fun K => (He.Fa.glo "_law_copies_to_21").ok K,
  fun K => (He.Fa.keep "_law_copies_to_21").ok K,
  fun K => (He.Fa.glo "_law_copies_to_43").ok K,
  fun K => (He.Fa.keep "_law_copies_to_43").ok K,
  fun K => (He.Fa.glo "_law_copies_to_64").ok K]
def fl_5 : List (PySem.W.Frag → Bool) := [
  fun K => (He.Fa.keep "_law_copies_to_64").ok K,
  fun K => fndB K (He.ga K "Lot") "__rmul__",
  fun K => decide (PySem.W.subIn K (.ref (He.ga K "Lot")) (.type "int") = some false),
  fun K => opFB K (He.ga K "Lot") "add",
  fun K => opFB K (He.ga K "Lot") "mod",
  fun K => (He.Fa.glo "_law_copies").ok K,
  fun K => (He.Fa.keep "_law_copies").ok K,
  fun K => (He.Fa.glo "_law_done").ok K,
  fun K => (He.Fa.keep "_law_done").ok K,
  fun K => (He.Fa.glo "Meets").ok K]
def fl_6 : List (PySem.W.Frag → Bool) := [
  fun K => xfB K (He.ga K "Meets"),
  fun K => (He.Fa.noat "Meets" "hour").ok K,
  fun K => (He.Fa.glo "NotADivisor").ok K,
  fun K => xfB K (He.ga K "NotADivisor"),
  fun K => (He.Fa.noat "NotADivisor" "number").ok K,
  fun K => (He.Fa.glo "BadNumber").ok K,
  fun K => xfB K (He.ga K "BadNumber"),
  fun K => (He.Fa.noat "BadNumber" "name").ok K,
  fun K => (He.Fa.noat "BadNumber" "value").ok K,
  fun K => (He.Fa.glo "WatchError").ok K]
def fl_7 : List (PySem.W.Frag → Bool) := [
  fun K => (He.Fa.free "ValueError").ok K,
  fun K => (He.Fa.glo "RepeatedHour").ok K,
  fun K => propB K (He.ga K "Lot") "members",
  fun K => fndB K (He.ga K "Lot") "__len__",
  fun K => (He.Fa.glo "_law_told").ok K,
  fun K => (He.Fa.keep "_law_told").ok K,
  fun K => (He.Fa.glo "_law_kinds").ok K,
  fun K => (He.Fa.keep "_law_kinds").ok K,
  fun K => (He.Fa.glo "_law_is_lot").ok K,
  fun K => (He.Fa.keep "_law_is_lot").ok K]
def fl_8 : List (PySem.W.Frag → Bool) := [
  fun K => (He.Fa.glo "_law_once").ok K,
  fun K => (He.Fa.keep "_law_once").ok K,
  fun K => (He.Fa.glo "_law_agrees").ok K,
  fun K => (He.Fa.keep "_law_agrees").ok K,
  fun K => (He.Fa.free "min").ok K,
  fun K => (He.Fa.glo "_law_drawn_lot").ok K,
  fun K => (He.Fa.keep "_law_drawn_lot").ok K,
  fun K => (He.Fa.glo "_law_numbers").ok K,
  fun K => (He.Fa.keep "_law_numbers").ok K,
  fun K => (He.Fa.glo "_law_products").ok K]
def fl_9 : List (PySem.W.Frag → Bool) := [
  fun K => (He.Fa.keep "_law_products").ok K,
  fun K => (He.Fa.glo "_law_sums").ok K,
  fun K => (He.Fa.keep "_law_sums").ok K,
  fun K => (He.Fa.glo "_law_residues").ok K,
  fun K => (He.Fa.keep "_law_residues").ok K,
  fun K => (He.Fa.glo "_law_copied").ok K,
  fun K => (He.Fa.keep "_law_copied").ok K,
  fun K => cellB K (He.ma K (He.ga K "BadNumber") "__init__") (He.ga K "BadNumber") theFile,
  fun K => exfB K (He.ga K "BadNumber") (He.ma K (He.ga K "BadNumber") "__init__"),
  fun K => cellB K (He.ma K (He.ga K "Meets") "__init__") (He.ga K "Meets") theFile]
def fl_10 : List (PySem.W.Frag → Bool) := [
  fun K => exfB K (He.ga K "Meets") (He.ma K (He.ga K "Meets") "__init__"),
  fun K => (He.Fa.noat "RepeatedHour" "hour").ok K,
  fun K => cellB K (He.ma K (He.ga K "RepeatedHour") "__init__") (He.ga K "RepeatedHour") theFile,
  fun K => exfB K (He.ga K "RepeatedHour") (He.ma K (He.ga K "RepeatedHour") "__init__"),
  fun K => cellB K (He.ma K (He.ga K "NotADivisor") "__init__") (He.ga K "NotADivisor") theFile,
  fun K => exfB K (He.ga K "NotADivisor") (He.ma K (He.ga K "NotADivisor") "__init__"),
  fun K => (He.Fa.free "super").ok K,
  fun K => (He.Fa.glo "law").ok K,
  exmAll,
  kitAll]
def fl_11 : List (PySem.W.Frag → Bool) := [
  fun K => insAll K "Lot"]
def fl : List (PySem.W.Frag → Bool) := fl_0 ++ (fl_1 ++ (fl_2 ++ (fl_3 ++ (fl_4 ++ (fl_5 ++ (fl_6 ++ (fl_7 ++ (fl_8 ++ (fl_9 ++ (fl_10 ++ (fl_11)))))))))))
abbrev TT (w : World) (K : PySem.W.Frag) (mg : PySem.Str → Option Value) (base : Heap) : Prop := Tx fl fn Pg w K mg base
theorem sc_hours_checked : FnScope ["hours", "most"] ["hours", "most"] (defScope (top 9)) := ⟨rfl, rfl, rfl, by decide +kernel, rfl, by decide +kernel, by decide +kernel⟩
theorem sc_rings_checked : FnScope ["one", "other"] ["one", "other"] (defScope (top 10)) := ⟨rfl, rfl, rfl, by decide +kernel, rfl, by decide +kernel, by decide +kernel⟩
theorem sc_each_once : FnScope ["residues", "ascending", "at", "residue"] ["residues"] (defScope (top 13)) := ⟨rfl, rfl, rfl, by decide +kernel, rfl, by decide +kernel, by decide +kernel⟩
theorem sc_Lot_init : FnScope ["self", "hours", "members", "residues", "member", "residue"] ["self", "hours", "members"] (defScope (inClass (top 14) 1)) := ⟨rfl, rfl, rfl, by decide +kernel, rfl, by decide +kernel, by decide +kernel⟩
theorem sc_Lot_members : FnScope ["self"] ["self"] (defScope (inClass (top 14) 3)) := ⟨rfl, rfl, rfl, by decide +kernel, rfl, by decide +kernel, by decide +kernel⟩
theorem sc_Lot_len : FnScope ["self"] ["self"] (defScope (inClass (top 14) 6)) := ⟨rfl, rfl, rfl, by decide +kernel, rfl, by decide +kernel, by decide +kernel⟩
theorem sc_Lot_mul : FnScope ["self", "factor", "member"] ["self", "factor"] (defScope (inClass (top 14) 16)) := ⟨rfl, rfl, rfl, by decide +kernel, rfl, by decide +kernel, by decide +kernel⟩
theorem sc_Lot_rmul : FnScope ["self", "factor"] ["self", "factor"] (defScope (inClass (top 14) 17)) := ⟨rfl, rfl, rfl, by decide +kernel, rfl, by decide +kernel, by decide +kernel⟩
theorem sc_Lot_add : FnScope ["self", "other", "sums", "one", "two"] ["self", "other"] (defScope (inClass (top 14) 18)) := ⟨rfl, rfl, rfl, by decide +kernel, rfl, by decide +kernel, by decide +kernel⟩
theorem sc_Lot_mod : FnScope ["self", "number", "member"] ["self", "number"] (defScope (inClass (top 14) 19)) := ⟨rfl, rfl, rfl, by decide +kernel, rfl, by decide +kernel, by decide +kernel⟩
theorem sc_Lot_pow : FnScope ["self", "times", "copies", "lap", "member"] ["self", "times"] (defScope (inClass (top 14) 20)) := ⟨rfl, rfl, rfl, by decide +kernel, rfl, by decide +kernel, by decide +kernel⟩
theorem sc_l_cell : FnScope ["script", "k"] ["script", "k"] (defScope (top 16)) := ⟨rfl, rfl, rfl, by decide +kernel, rfl, by decide +kernel, by decide +kernel⟩
theorem sc_l_draws : FnScope ["cell", "salt", "menu", "found", "rest", "mixed", "k"] ["cell", "salt", "menu"] (defScope (top 17)) := ⟨rfl, rfl, rfl, by decide +kernel, rfl, by decide +kernel, by decide +kernel⟩
theorem sc_l_is_int : FnScope ["x"] ["x"] (defScope (top 18)) := ⟨rfl, rfl, rfl, by decide +kernel, rfl, by decide +kernel, by decide +kernel⟩
theorem sc_l_same : FnScope ["got", "due", "k"] ["got", "due"] (defScope (top 19)) := ⟨rfl, rfl, rfl, by decide +kernel, rfl, by decide +kernel, by decide +kernel⟩
theorem sc_l_digits : FnScope ["cell", "salt", "number", "piece"] ["cell", "salt"] (defScope (top 20)) := ⟨rfl, rfl, rfl, by decide +kernel, rfl, by decide +kernel, by decide +kernel⟩
theorem sc_l_bits : FnScope ["n", "number", "found", "h"] ["n", "number"] (defScope (top 21)) := ⟨rfl, rfl, rfl, by decide +kernel, rfl, by decide +kernel, by decide +kernel⟩
theorem sc_l_subset : FnScope ["cell", "salt", "n", "found", "pieces", "k", "h"] ["cell", "salt", "n"] (defScope (top 22)) := ⟨rfl, rfl, rfl, by decide +kernel, rfl, by decide +kernel, by decide +kernel⟩
theorem sc_l_drawn_lot : FnScope ["cell", "salt", "n", "way", "drawn"] ["cell", "salt", "n", "way"] (defScope (top 23)) := ⟨rfl, rfl, rfl, by decide +kernel, rfl, by decide +kernel, by decide +kernel⟩
theorem sc_l_divisors : FnScope ["n", "part"] ["n"] (defScope (top 24)) := ⟨rfl, rfl, rfl, by decide +kernel, rfl, by decide +kernel, by decide +kernel⟩
theorem sc_l_numbers : FnScope ["script", "n", "ways", "number", "factor", "parts", "part"] ["script", "n"] (defScope (top 25)) := ⟨rfl, rfl, rfl, by decide +kernel, rfl, by decide +kernel, by decide +kernel⟩
theorem sc_l_copies_to_21 : FnScope ["x", "n"] ["x", "n"] (defScope (top 26)) := ⟨rfl, rfl, rfl, by decide +kernel, rfl, by decide +kernel, by decide +kernel⟩
theorem sc_l_copies_to_43 : FnScope ["x", "n"] ["x", "n"] (defScope (top 27)) := ⟨rfl, rfl, rfl, by decide +kernel, rfl, by decide +kernel, by decide +kernel⟩
theorem sc_l_copies_to_64 : FnScope ["x", "n"] ["x", "n"] (defScope (top 28)) := ⟨rfl, rfl, rfl, by decide +kernel, rfl, by decide +kernel, by decide +kernel⟩
theorem sc_l_copies : FnScope ["x", "n"] ["x", "n"] (defScope (top 29)) := ⟨rfl, rfl, rfl, by decide +kernel, rfl, by decide +kernel, by decide +kernel⟩
theorem sc_l_done : FnScope ["one", "two", "way"] ["one", "two", "way"] (defScope (top 30)) := ⟨rfl, rfl, rfl, by decide +kernel, rfl, by decide +kernel, by decide +kernel⟩
theorem sc_l_told : FnScope ["one", "two", "way", "told", "e"] ["one", "two", "way"] (defScope (top 31)) := ⟨rfl, rfl, rfl, by decide +kernel, rfl, by decide +kernel, by decide +kernel⟩
theorem sc_l_kinds : FnScope ["one", "two", "way", "kinds", "e"] ["one", "two", "way"] (defScope (top 32)) := ⟨rfl, rfl, rfl, by decide +kernel, rfl, by decide +kernel, by decide +kernel⟩
theorem sc_l_is_lot : FnScope ["lot", "n", "due"] ["lot", "n", "due"] (defScope (top 33)) := ⟨rfl, rfl, rfl, by decide +kernel, rfl, by decide +kernel, by decide +kernel⟩
theorem sc_l_agrees : FnScope ["one", "two", "way", "n", "due", "told", "kinds", "words", "word"] ["one", "two", "way", "n", "due"] (defScope (top 34)) := ⟨rfl, rfl, rfl, by decide +kernel, rfl, by decide +kernel, by decide +kernel⟩
theorem sc_l_once : FnScope ["residues", "n", "counts", "residue", "h"] ["residues", "n"] (defScope (top 35)) := ⟨rfl, rfl, rfl, by decide +kernel, rfl, by decide +kernel, by decide +kernel⟩
theorem sc_l_sums : FnScope ["first", "second", "n", "ring", "found", "one", "two"] ["first", "second", "n", "ring"] (defScope (top 36)) := ⟨rfl, rfl, rfl, by decide +kernel, rfl, by decide +kernel, by decide +kernel⟩
theorem sc_l_products : FnScope ["lot", "members", "n", "factor", "due", "member"] ["lot", "members", "n", "factor"] (defScope (top 37)) := ⟨rfl, rfl, rfl, by decide +kernel, rfl, by decide +kernel, by decide +kernel⟩
theorem sc_l_residues : FnScope ["lot", "members", "n", "part", "member"] ["lot", "members", "n", "part"] (defScope (top 38)) := ⟨rfl, rfl, rfl, by decide +kernel, rfl, by decide +kernel, by decide +kernel⟩
theorem sc_l_copied : FnScope ["lot", "members", "n", "times", "due", "lap", "member"] ["lot", "members", "n", "times"] (defScope (top 39)) := ⟨rfl, rfl, rfl, by decide +kernel, rfl, by decide +kernel, by decide +kernel⟩
theorem sc_law : FnScope ["script", "ways", "n", "ring", "first", "second", "parts", "part", "factor", "times", "one", "two", "h"] ["script"] (defScope (top 40)) := ⟨rfl, rfl, rfl, by decide +kernel, rfl, by decide +kernel, by decide +kernel⟩
section
variable {w : World} {K : PySem.W.Frag} {mg : PySem.Str → Option Value} {base : Heap}
theorem exk_BadNumber (T : TT w K mg base) : ExK Pg w K mg (He.ga K "BadNumber") (He.ma K (He.ga K "BadNumber") "__init__") "BadNumber" ok2 (fs2 "name" "value") :=
  exk2 (file := theFile) T 37 (d := d_BadNumber_init) rfl rfl (T.fa 97 rfl) (T.fa 98 rfl) (T.fa 106 rfl) (T.glo "BadNumber" (T.fa 65 rfl)) (He.noat_ok (x := "BadNumber") (f := "name") (T.fa 67 rfl)) (He.noat_ok (x := "BadNumber") (f := "value") (T.fa 68 rfl)) rfl rfl
    (⟨⟨rfl, rfl, rfl, by decide +kernel, by decide +kernel, by decide +kernel, by decide +kernel, ⟨_, rfl, rfl⟩, fun _ _ _ _ _ => rfl, fun _ _ _ _ _ _ _ _ _ us hl => match us, hl with | [_, _, _], _ => rfl⟩,
    ⟨_, _, _, _, _, _, _, _, _, _, _, _, _, _, _, _, _, _, rfl, by decide +kernel, fun _ _ _ _ _ => ⟨_, rfl⟩⟩, by decide +kernel, by decide +kernel, by decide +kernel⟩ : BwM.Txt2 (inClass (top 3) 0) "name" "name" "value" "value")
theorem exk_Meets (T : TT w K mg base) : ExK Pg w K mg (He.ga K "Meets") (He.ma K (He.ga K "Meets") "__init__") "Meets" ok1 (fs1 "hour") :=
  exk1 (file := theFile) T 38 (d := d_Meets_init) rfl rfl (T.fa 99 rfl) (T.fa 100 rfl) (T.fa 106 rfl) (T.glo "Meets" (T.fa 59 rfl)) (He.noat_ok (x := "Meets") (f := "hour") (T.fa 61 rfl)) rfl rfl
    (⟨⟨rfl, rfl, rfl, by decide +kernel, by decide +kernel, by decide +kernel, by decide +kernel, ⟨_, rfl, rfl⟩, fun _ _ _ _ _ => rfl, fun _ _ _ _ _ _ _ _ _ us hl => match us, hl with | [_, _], _ => rfl⟩,
    ⟨_, _, _, _, _, _, _, _, _, _, _, _, rfl, fun _ _ _ _ _ => ⟨_, rfl⟩⟩, by decide +kernel, by decide +kernel⟩ : BwM.Txt1 (inClass (top 5) 0) "hour" "hour")
theorem exk_RepeatedHour (T : TT w K mg base) : ExK Pg w K mg (He.ga K "RepeatedHour") (He.ma K (He.ga K "RepeatedHour") "__init__") "RepeatedHour" ok1 (fs1 "hour") :=
  exk1 (file := theFile) T 39 (d := d_RepeatedHour_init) rfl rfl (T.fa 102 rfl) (T.fa 103 rfl) (T.fa 106 rfl) (T.glo "RepeatedHour" (T.fa 71 rfl)) (He.noat_ok (x := "RepeatedHour") (f := "hour") (T.fa 101 rfl)) rfl rfl
    (⟨⟨rfl, rfl, rfl, by decide +kernel, by decide +kernel, by decide +kernel, by decide +kernel, ⟨_, rfl, rfl⟩, fun _ _ _ _ _ => rfl, fun _ _ _ _ _ _ _ _ _ us hl => match us, hl with | [_, _], _ => rfl⟩,
    ⟨_, _, _, _, _, _, _, _, _, _, _, _, rfl, fun _ _ _ _ _ => ⟨_, rfl⟩⟩, by decide +kernel, by decide +kernel⟩ : BwM.Txt1 (inClass (top 4) 0) "hour" "hour")
theorem exk_NotADivisor (T : TT w K mg base) : ExK Pg w K mg (He.ga K "NotADivisor") (He.ma K (He.ga K "NotADivisor") "__init__") "NotADivisor" ok1 (fs1 "number") :=
  exk1 (file := theFile) T 40 (d := d_NotADivisor_init) rfl rfl (T.fa 104 rfl) (T.fa 105 rfl) (T.fa 106 rfl) (T.glo "NotADivisor" (T.fa 62 rfl)) (He.noat_ok (x := "NotADivisor") (f := "number") (T.fa 64 rfl)) rfl rfl
    (⟨⟨rfl, rfl, rfl, by decide +kernel, by decide +kernel, by decide +kernel, by decide +kernel, ⟨_, rfl, rfl⟩, fun _ _ _ _ _ => rfl, fun _ _ _ _ _ _ _ _ _ us hl => match us, hl with | [_, _], _ => rfl⟩,
    ⟨_, _, _, _, _, _, _, _, _, _, _, _, rfl, fun _ _ _ _ _ => ⟨_, rfl⟩⟩, by decide +kernel, by decide +kernel⟩ : BwM.Txt1 (inClass (top 7) 0) "number" "number")
theorem T_kf (T : TT w K mg base) : KF K := ⟨(T.fa 108 rfl), (T.fa 109 rfl), (T.fa 110 rfl)⟩
theorem ok_first_repeated (T : TT w K mg base) : OkF Pg w K mg base 1 (He.ga K "first_repeated") (spF K) := by
  obtain ⟨fd, F⟩ := T.df 36 (d := d_first_repeated) rfl
  exact ⟨fd, ["residues"], ⟨fun _ _ _ _ h => h.elim, fun _ _ _ _ _ _ _ _ _ _ _ _ _ h => h.elim⟩, F.binds (fun _ _ _ _ _ _ us hl => match us, hl with | [_], _ => rfl)⟩
theorem ok_hours_checked (T : TT w K mg base) : OkF Pg w K mg base 2 (He.ga K "hours_checked") (sp_hours_checked K) :=
  okf_of (d := d_hours_checked) (t := fun E => t_hours_checked K E) (T.df 0 rfl) sc_hours_checked (fun _ _ _ _ h => by obtain ⟨_, _, rfl, _⟩ := h; rfl)
    (fun _ _ _ _ _ _ us hl => match us, hl with | [_, _], _ => rfl) (fun cdv A outer s H E nd tk hr =>
    (pss_one (ps_if (pt_not (pt_chain op_le op_le pe_int (pv 0) (pv 1))) (pss_one (ps_raise rfl tk (pmk_e (exk_BadNumber T) hr (by decide) (pa_cons pe_str (pa_cons (pv 0) pa_nil)) rfl))) pss_nil)))
    (pure_hours_checked (T_kf T))
theorem ok_rings_checked (T : TT w K mg base) : OkF Pg w K mg base 2 (He.ga K "rings_checked") (sp_rings_checked K) :=
  okf_of (d := d_rings_checked) (t := fun E => t_rings_checked K E) (T.df 1 rfl) sc_rings_checked (fun _ _ _ _ h => by obtain ⟨_, _, _, _, _, _, rfl, _⟩ := h; rfl)
    (fun _ _ _ _ _ _ us hl => match us, hl with | [_, _], _ => rfl) (fun cdv A outer s H E nd tk hr =>
    (pss_one (ps_if (pt_cmpR op_ne (pe_fldI (He.cls_ok (x := "Lot") (T.fa 0 rfl)) (He.noat_ok (x := "Lot") (f := "hours") (T.fa 1 rfl)) (pv 0)) (pe_fldI (He.cls_ok (x := "Lot") (T.fa 0 rfl)) (He.noat_ok (x := "Lot") (f := "hours") (T.fa 1 rfl)) (pv 1)) (nomark _)) (pss_one (ps_raise rfl tk (pmk_own PySem.F.excBase_ValueError (He.exc_ok (x := "OtherHours") (T.fa 2 rfl)).1 (T.glo "OtherHours" (T.fa 3 rfl)) (He.exc_ok (x := "OtherHours") (T.fa 2 rfl)).2.1 (raises_own (He.exc_ok (x := "OtherHours") (T.fa 2 rfl)).2.2.1 (He.exc_ok (x := "OtherHours") (T.fa 2 rfl)).2.2.2) rfl))) pss_nil)))
    (pure_rings_checked (T_kf T))
theorem ok_each_once (T : TT w K mg base) : OkF Pg w K mg base 2 (He.ga K "each_once") (sp_each_once K) :=
  okf_of (d := d_each_once) (t := fun E => t_each_once K E) (T.df 2 rfl) sc_each_once (fun _ _ _ _ h => by obtain ⟨_, _, rfl, _⟩ := h; rfl)
    (fun _ _ _ _ _ _ us hl => match us, hl with | [_], _ => rfl) (fun cdv A outer s H E nd tk hr =>
    (pss_cons (ps_set (i := 1) nd rfl (.inl rfl) (pe_callB cr_sortedI rfl (T.free "sorted" (T.fa 5 rfl)) (by kernel_rfl) (pa_cons (pe_lc (own := [("residue", 3)]) rfl nd (pi_list (pv 0)) (blkOk_by (own := [("residue", 3)]) (by kernel_rfl)) (fun _ _ _ _ _ => (pg_name (i := 3) nd rfl (.inl rfl))) (fun _ _ _ _ _ => pts_nil) (fun _ _ _ _ _ => (pe_callTy call_int1 rfl (T.free "int" (T.fa 4 rfl)) (by kernel_rfl) (pa_cons (pv 3) pa_nil)))) pa_nil)))
    (pss_cons (ps_for (passes_of rfl) rfl (pi_range2 rfl (T.free "range" (T.fa 7 rfl)) (pa_cons pe_int (pa_cons (pe_callB call_len_seq rfl (T.free "len" (T.fa 6 rfl)) boot_len (pa_cons (pv 1) pa_nil)) pa_nil))) (pg_name (i := 2) nd rfl (.inl rfl)) (pss_one (ps_if (pt_cmpR op_eq (pe_ix ix_list (pv 1) (pv 2) (fun _ _ => rfl)) (pe_ix ix_list (pv 1) (pe_op op_sub (pv 2) pe_int) (fun _ _ => rfl)) (nomark _)) (pss_one (ps_raise rfl tk (pmk_e (exk_Meets T) hr (by decide) (pa_cons (pe_ix ix_list (pv 1) (pv 2) (fun _ _ => rfl)) pa_nil) rfl))) pss_nil)))
    (pss_one (ps_ret (pv 1))))))
    (pure_each_once (T_kf T))
theorem ok_Lot_init (T : TT w K mg base) : OkF Pg w K mg base 4 (He.ma K (He.ga K "Lot") "__init__") (sp_Lot_init K) :=
  okf_of (d := d_Lot_init) (t := fun E => t_Lot_init K E) (T.df 3 rfl) sc_Lot_init (fun _ _ _ _ h => by obtain ⟨_, _, _, _, _, rfl, _⟩ := h; rfl)
    (fun _ _ _ _ _ _ us hl => match us, hl with | [_, _, _], _ => rfl) (fun cdv A outer s H E nd tk hr =>
    (pss_cons (ps_expr (pe_c1 ⟨ok_hours_checked T, hr.mono (by decide), tk⟩ (T.glo "hours_checked" (T.fa 9 rfl)) (He.keep_ok (x := "hours_checked") (T.fa 10 rfl)) rfl (pa_cons (pv 1) (pa_cons (pe_conI (He.cls_ok (x := "Lot") (T.fa 0 rfl)) (conB_ok (T.fa 8 rfl)) (pv 0)) pa_nil))))
    (pss_cons (ps_setLc (i := 3) (own := [("member", 4)]) rfl nd rfl rfl (sw_true rfl rfl rfl (by kernel_rfl)) (pi_list (pv 2)) (blkOk_by (own := [("member", 4)]) (by kernel_rfl)) (fun _ _ _ _ _ => (pg_name (i := 4) nd rfl (.inl rfl))) (fun _ _ _ _ _ => pts_nil) (fun _ _ _ _ _ => (pe_op op_modN (pv 4) (pv 1))))
    (pss_cons (ps_if (pt_cmpR op_lt (RZ.pe_lenSetI rfl (T.free "len" (T.fa 6 rfl)) rfl (T.free "set" (T.fa 11 rfl)) (pv 3)) (pe_callB call_len_seq rfl (T.free "len" (T.fa 6 rfl)) boot_len (pa_cons (pv 3) pa_nil)) (nomark _)) (pss_one (ps_raise rfl tk (pmk_e (exk_RepeatedHour T) hr (by decide) (pa_cons (pe_c1 ⟨ok_first_repeated T, hr.mono (by decide), tk⟩ (T.glo "first_repeated" (T.fa 12 rfl)) (He.keep_ok (x := "first_repeated") (T.fa 13 rfl)) rfl (pa_cons (pv 3) pa_nil)) pa_nil) rfl))) pss_nil)
    (pss_cons (ps_fldI (He.cls_ok (x := "Lot") (T.fa 0 rfl)) (He.noat_ok (x := "Lot") (f := "hours") (T.fa 1 rfl)) (pv 0) (pv 1) rfl)
    (pss_one (ps_fldI (He.cls_ok (x := "Lot") (T.fa 0 rfl)) (He.noat_ok (x := "Lot") (f := "_members") (T.fa 14 rfl)) (pv 0) (pe_callB cr_sortedI rfl (T.free "sorted" (T.fa 5 rfl)) (by kernel_rfl) (pa_cons (pe_lc (own := [("residue", 5)]) rfl nd (pi_list (pv 3)) (blkOk_by (own := [("residue", 5)]) (by kernel_rfl)) (fun _ _ _ _ _ => (pg_name (i := 5) nd rfl (.inl rfl))) (fun _ _ _ _ _ => pts_nil) (fun _ _ _ _ _ => (pe_callTy call_int1 rfl (T.free "int" (T.fa 4 rfl)) (by kernel_rfl) (pa_cons (pv 5) pa_nil)))) pa_nil)) rfl)))))))
    (pure_Lot_init (T_kf T))
theorem ok_Lot_members (T : TT w K mg base) : OkF Pg w K mg base 2 (getter K (He.ga K "Lot") "members") (sp_Lot_members K) :=
  okf_of (d := d_Lot_members) (t := fun E => t_Lot_members K E) (T.df 4 rfl) sc_Lot_members (fun _ _ _ _ h => by obtain ⟨_, _, _, rfl, _⟩ := h; rfl)
    (fun _ _ _ _ _ _ us hl => match us, hl with | [_], _ => rfl) (fun cdv A outer s H E nd tk hr =>
    (pss_one (ps_ret (pe_callTy call_list_of rfl (T.free "list" (T.fa 15 rfl)) (by kernel_rfl) (pa_cons (pe_fldI (He.cls_ok (x := "Lot") (T.fa 0 rfl)) (He.noat_ok (x := "Lot") (f := "_members") (T.fa 14 rfl)) (pv 0)) pa_nil)))))
    (pure_Lot_members (T_kf T))
theorem ok_Lot_len (T : TT w K mg base) : OkF Pg w K mg base 2 (He.ma K (He.ga K "Lot") "__len__") (sp_Lot_len K) :=
  okf_of (d := d_Lot_len) (t := fun E => t_Lot_len K E) (T.df 5 rfl) sc_Lot_len (fun _ _ _ _ h => by obtain ⟨_, _, _, rfl, _⟩ := h; rfl)
    (fun _ _ _ _ _ _ us hl => match us, hl with | [_], _ => rfl) (fun cdv A outer s H E nd tk hr =>
    (pss_one (ps_ret (pe_callB call_len_seq rfl (T.free "len" (T.fa 6 rfl)) boot_len (pa_cons (pe_fldI (He.cls_ok (x := "Lot") (T.fa 0 rfl)) (He.noat_ok (x := "Lot") (f := "_members") (T.fa 14 rfl)) (pv 0)) pa_nil)))))
    (pure_Lot_len (T_kf T))
theorem ok_Lot_mul (T : TT w K mg base) : OkF Pg w K mg base 6 (He.ma K (He.ga K "Lot") "__mul__") (sp_Lot_mul K) :=
  okf_of (d := d_Lot_mul) (t := fun E => t_Lot_mul K E) (T.df 6 rfl) sc_Lot_mul (fun _ _ _ _ h => by obtain ⟨_, _, _, _, rfl, _⟩ := h; rfl)
    (fun _ _ _ _ _ _ us hl => match us, hl with | [_, _], _ => rfl) (fun cdv A outer s H E nd tk hr =>
    (pss_one (ps_ret (pe_mk1 (He.mkr_ok (x := "Lot") (T.fa 18 rfl)) ⟨ok_Lot_init T, hr.mono (by decide), tk⟩ (hr.mono (by decide)) (T.glo "Lot" (T.fa 19 rfl)) rfl (pa_cons (pe_fldI (He.cls_ok (x := "Lot") (T.fa 0 rfl)) (He.noat_ok (x := "Lot") (f := "hours") (T.fa 1 rfl)) (pv 0)) (pa_cons (pe_c1 ⟨ok_each_once T, hr.mono (by decide), tk⟩ (T.glo "each_once" (T.fa 16 rfl)) (He.keep_ok (x := "each_once") (T.fa 17 rfl)) rfl (pa_cons (pe_lc (own := [("member", 2)]) rfl nd (pi_list (pe_fldI (He.cls_ok (x := "Lot") (T.fa 0 rfl)) (He.noat_ok (x := "Lot") (f := "_members") (T.fa 14 rfl)) (pv 0))) (blkOk_by (own := [("member", 2)]) (by kernel_rfl)) (fun _ _ _ _ _ => (pg_name (i := 2) nd rfl (.inl rfl))) (fun _ _ _ _ _ => pts_nil) (fun _ _ _ _ _ => (pe_op op_modN (pe_op op_mulW (pv 2) (pv 1)) (pe_fldI (He.cls_ok (x := "Lot") (T.fa 0 rfl)) (He.noat_ok (x := "Lot") (f := "hours") (T.fa 1 rfl)) (pv 0))))) pa_nil)) pa_nil))))))
    (pure_Lot_mul (T_kf T))
theorem ok_Lot_rmul (T : TT w K mg base) : OkF Pg w K mg base 8 (He.ma K (He.ga K "Lot") "__rmul__") (sp_Lot_rmul K) :=
  okf_of (d := d_Lot_rmul) (t := fun E => t_Lot_rmul K E) (T.df 7 rfl) sc_Lot_rmul (fun _ _ _ _ h => by obtain ⟨_, _, _, _, rfl, _⟩ := h; rfl)
    (fun _ _ _ _ _ _ us hl => match us, hl with | [_, _], _ => rfl) (fun cdv A outer s H E nd tk hr =>
    (pss_one (ps_ret (pe_binN (op := .Mult) (opF_ok (T.fa 20 rfl)) ⟨ok_Lot_mul T, hr.mono (by decide), tk⟩ (by kernel_rfl) (by kernel_rfl) (pv 0) (pv 1)))))
    (pure_Lot_rmul (T_kf T))
theorem ok_Lot_add (T : TT w K mg base) : OkF Pg w K mg base 6 (He.ma K (He.ga K "Lot") "__add__") (sp_Lot_add K) :=
  okf_of (d := d_Lot_add) (t := fun E => t_Lot_add K E) (T.df 8 rfl) sc_Lot_add (fun _ _ _ _ h => by obtain ⟨_, _, _, _, _, _, rfl, _⟩ := h; rfl)
    (fun _ _ _ _ _ _ us hl => match us, hl with | [_, _], _ => rfl) (fun cdv A outer s H E nd tk hr =>
    (pss_cons (ps_expr (pe_c1 ⟨ok_rings_checked T, hr.mono (by decide), tk⟩ (T.glo "rings_checked" (T.fa 21 rfl)) (He.keep_ok (x := "rings_checked") (T.fa 22 rfl)) rfl (pa_cons (pv 0) (pa_cons (pv 1) pa_nil))))
    (pss_cons (ps_setLc2 (i := 2) (own := [("one", 3), ("two", 4)]) (vs1 := [4]) rfl nd rfl rfl (sw_true rfl rfl rfl (by kernel_rfl)) (pi_list (pe_fldI (He.cls_ok (x := "Lot") (T.fa 0 rfl)) (He.noat_ok (x := "Lot") (f := "_members") (T.fa 14 rfl)) (pv 0))) (blkOk_by (own := [("one", 3), ("two", 4)]) (by kernel_rfl)) (by decide) (fun _ _ _ _ _ => (pg_name (i := 3) nd rfl (.inl rfl))) (fun _ _ _ _ _ => pts_nil) (fun _ _ _ _ _ => (pi_list (pe_fldI (He.cls_ok (x := "Lot") (T.fa 0 rfl)) (He.noat_ok (x := "Lot") (f := "_members") (T.fa 14 rfl)) (pv 1)))) (fun _ _ _ _ _ => (pg_name (i := 4) nd rfl (.inl rfl))) (fun _ _ _ _ _ => pts_nil) (fun _ _ _ _ _ => (pe_op op_modN (pe_op op_add (pv 3) (pv 4)) (pe_fldI (He.cls_ok (x := "Lot") (T.fa 0 rfl)) (He.noat_ok (x := "Lot") (f := "hours") (T.fa 1 rfl)) (pv 0)))))
    (pss_one (ps_ret (pe_mk1 (He.mkr_ok (x := "Lot") (T.fa 18 rfl)) ⟨ok_Lot_init T, hr.mono (by decide), tk⟩ (hr.mono (by decide)) (T.glo "Lot" (T.fa 19 rfl)) rfl (pa_cons (pe_fldI (He.cls_ok (x := "Lot") (T.fa 0 rfl)) (He.noat_ok (x := "Lot") (f := "hours") (T.fa 1 rfl)) (pv 0)) (pa_cons (pe_c1 ⟨ok_each_once T, hr.mono (by decide), tk⟩ (T.glo "each_once" (T.fa 16 rfl)) (He.keep_ok (x := "each_once") (T.fa 17 rfl)) rfl (pa_cons (pv 2) pa_nil)) pa_nil))))))))
    (pure_Lot_add (T_kf T))
theorem ok_Lot_mod (T : TT w K mg base) : OkF Pg w K mg base 6 (He.ma K (He.ga K "Lot") "__mod__") (sp_Lot_mod K) :=
  okf_of (d := d_Lot_mod) (t := fun E => t_Lot_mod K E) (T.df 9 rfl) sc_Lot_mod (fun _ _ _ _ h => by obtain ⟨_, _, _, _, rfl, _⟩ := h; rfl)
    (fun _ _ _ _ _ _ us hl => match us, hl with | [_, _], _ => rfl) (fun cdv A outer s H E nd tk hr =>
    (pss_cons (ps_if (PW.pt (pw_or (pt_cmpR op_lt (pv 1) pe_int (nomark _)) (pw_or1 (pt_cmpR op_ne (pe_op op_modN (pe_fldI (He.cls_ok (x := "Lot") (T.fa 0 rfl)) (He.noat_ok (x := "Lot") (f := "hours") (T.fa 1 rfl)) (pv 0)) (pv 1)) pe_int (nomark _))))) (pss_one (ps_raise rfl tk (pmk_e (exk_NotADivisor T) hr (by decide) (pa_cons (pv 1) pa_nil) rfl))) pss_nil)
    (pss_one (ps_ret (pe_mk1 (He.mkr_ok (x := "Lot") (T.fa 18 rfl)) ⟨ok_Lot_init T, hr.mono (by decide), tk⟩ (hr.mono (by decide)) (T.glo "Lot" (T.fa 19 rfl)) rfl (pa_cons (pv 1) (pa_cons (pe_c1 ⟨ok_each_once T, hr.mono (by decide), tk⟩ (T.glo "each_once" (T.fa 16 rfl)) (He.keep_ok (x := "each_once") (T.fa 17 rfl)) rfl (pa_cons (pe_lc (own := [("member", 2)]) rfl nd (pi_list (pe_fldI (He.cls_ok (x := "Lot") (T.fa 0 rfl)) (He.noat_ok (x := "Lot") (f := "_members") (T.fa 14 rfl)) (pv 0))) (blkOk_by (own := [("member", 2)]) (by kernel_rfl)) (fun _ _ _ _ _ => (pg_name (i := 2) nd rfl (.inl rfl))) (fun _ _ _ _ _ => pts_nil) (fun _ _ _ _ _ => (pe_op op_modN (pv 2) (pv 1)))) pa_nil)) pa_nil)))))))
    (pure_Lot_mod (T_kf T))
theorem ok_Lot_pow (T : TT w K mg base) : OkF Pg w K mg base 6 (He.ma K (He.ga K "Lot") "__pow__") (sp_Lot_pow K) :=
  okf_of (d := d_Lot_pow) (t := fun E => t_Lot_pow K E) (T.df 10 rfl) sc_Lot_pow (fun _ _ _ _ h => by obtain ⟨_, _, _, _, rfl, _⟩ := h; rfl)
    (fun _ _ _ _ _ _ us hl => match us, hl with | [_, _], _ => rfl) (fun cdv A outer s H E nd tk hr =>
    (pss_cons (ps_if (pt_cmpR op_lt (pv 1) pe_int (nomark _)) (pss_one (ps_raise rfl tk (pmk_e (exk_BadNumber T) hr (by decide) (pa_cons pe_str (pa_cons (pv 1) pa_nil)) rfl))) pss_nil)
    (pss_cons (ps_expr (pe_c1 ⟨ok_hours_checked T, hr.mono (by decide), tk⟩ (T.glo "hours_checked" (T.fa 9 rfl)) (He.keep_ok (x := "hours_checked") (T.fa 10 rfl)) rfl (pa_cons (pe_op op_mulW (pe_fldI (He.cls_ok (x := "Lot") (T.fa 0 rfl)) (He.noat_ok (x := "Lot") (f := "hours") (T.fa 1 rfl)) (pv 0)) (pv 1)) (pa_cons (pe_conI (He.cls_ok (x := "Lot") (T.fa 0 rfl)) (conB_ok (T.fa 8 rfl)) (pv 0)) pa_nil))))
    (pss_cons (ps_setLc2 (i := 2) (own := [("lap", 3), ("member", 4)]) (vs1 := [4]) rfl nd rfl rfl (sw_true rfl rfl rfl (by kernel_rfl)) (pi_range1 rfl (T.free "range" (T.fa 7 rfl)) (pa_cons (pv 1) pa_nil)) (blkOk_by (own := [("lap", 3), ("member", 4)]) (by kernel_rfl)) (by decide) (fun _ _ _ _ _ => (pg_name (i := 3) nd rfl (.inl rfl))) (fun _ _ _ _ _ => pts_nil) (fun _ _ _ _ _ => (pi_list (pe_fldI (He.cls_ok (x := "Lot") (T.fa 0 rfl)) (He.noat_ok (x := "Lot") (f := "_members") (T.fa 14 rfl)) (pv 0)))) (fun _ _ _ _ _ => (pg_name (i := 4) nd rfl (.inl rfl))) (fun _ _ _ _ _ => pts_nil) (fun _ _ _ _ _ => (pe_op op_add (pv 4) (pe_op op_mulW (pv 3) (pe_fldI (He.cls_ok (x := "Lot") (T.fa 0 rfl)) (He.noat_ok (x := "Lot") (f := "hours") (T.fa 1 rfl)) (pv 0))))))
    (pss_one (ps_ret (pe_mk1 (He.mkr_ok (x := "Lot") (T.fa 18 rfl)) ⟨ok_Lot_init T, hr.mono (by decide), tk⟩ (hr.mono (by decide)) (T.glo "Lot" (T.fa 19 rfl)) rfl (pa_cons (pe_op op_mulW (pe_fldI (He.cls_ok (x := "Lot") (T.fa 0 rfl)) (He.noat_ok (x := "Lot") (f := "hours") (T.fa 1 rfl)) (pv 0)) (pv 1)) (pa_cons (pv 2) pa_nil)))))))))
    (pure_Lot_pow (T_kf T))
theorem ok_l_cell (T : TT w K mg base) : OkF Pg w K mg base 2 (He.ga K "_law_cell") (sp_l_cell K) :=
  okf_of (d := d_l_cell) (t := fun E => t_l_cell K E) (T.df 11 rfl) sc_l_cell (fun _ _ _ _ h => by obtain ⟨_, _, _, rfl, _⟩ := h; rfl)
    (fun _ _ _ _ _ _ us hl => match us, hl with | [_, _], _ => rfl) (fun cdv A outer s H E nd tk hr =>
    (pss_cons (ps_if (pt_cmpR op_lt (pv 1) (pe_callB call_len_seq rfl (T.free "len" (T.fa 6 rfl)) boot_len (pa_cons (pv 0) pa_nil)) (nomark _)) (pss_one (ps_ret (pe_callB call_abs rfl (T.free "abs" (T.fa 23 rfl)) (by kernel_rfl) (pa_cons (pe_ix ix_list (pv 0) (pv 1) (fun _ _ => rfl)) pa_nil)))) pss_nil)
    (pss_one (ps_ret pe_int))))
    (pure_l_cell (T_kf T))
theorem ok_l_draws (T : TT w K mg base) : OkF Pg w K mg base 2 (He.ga K "_law_draws") (sp_l_draws K) :=
  okf_of (d := d_l_draws) (t := fun E => t_l_draws K E) (T.df 12 rfl) sc_l_draws (fun _ _ _ _ h => by obtain ⟨_, _, _, _, rfl, _⟩ := h; rfl)
    (fun _ _ _ _ _ _ us hl => match us, hl with | [_, _, _], _ => rfl) (fun cdv A outer s H E nd tk hr =>
    (pss_cons (ps_set (i := 3) nd rfl (.inl rfl) (pe_lst pa_nil))
    (pss_cons (ps_set (i := 4) nd rfl (.inl rfl) (pe_op op_sub (pv 0) (pe_op op_pow pe_int pe_int)))
    (pss_cons (ps_set (i := 5) nd rfl (.inl rfl) (pe_op op_add (pv 0) (pe_op op_mulW pe_int (pv 1))))
    (pss_cons (ps_for (passes_of rfl) rfl (pi_range1 rfl (T.free "range" (T.fa 7 rfl)) (pa_cons (pe_callB call_len_seq rfl (T.free "len" (T.fa 6 rfl)) boot_len (pa_cons (pv 2) pa_nil)) pa_nil)) (pg_name (i := 6) nd rfl (.inl rfl)) (pss_one (ps_if (pt_cmpR op_ge (pv 4) pe_int (nomark _)) (pss_cons (ps_expr (pe_bm PySem.F.plainAttrs_list PySem.F.slot_list_append PySem.F.type_list_append mt_append (pv 3) (pa_cons (pe_op op_modN (pe_callTy call_int1 rfl (T.free "int" (T.fa 4 rfl)) (by kernel_rfl) (pa_cons (pv 4) pa_nil)) (pe_ix ix_list (pv 2) (pv 6) (fun _ _ => rfl))) pa_nil)))
    (pss_one (ps_set (i := 4) nd rfl (.inl rfl) (pe_op op_fdivW (pv 4) (pe_ix ix_list (pv 2) (pv 6) (fun _ _ => rfl)))))) (pss_cons (ps_set (i := 5) nd rfl (.inl rfl) (pe_op op_modN (pe_callTy call_int1 rfl (T.free "int" (T.fa 4 rfl)) (by kernel_rfl) (pa_cons (pe_op op_add (pe_op op_add (pe_op op_mulW (pv 5) (pv 5)) (pe_op op_mulW pe_int (pe_op op_add (pv 6) pe_int))) pe_int) pa_nil)) pe_int))
    (pss_cons (ps_set (i := 5) nd rfl (.inl rfl) (pe_op op_modN (pe_callTy call_int1 rfl (T.free "int" (T.fa 4 rfl)) (by kernel_rfl) (pa_cons (pe_op op_add (pe_op op_mulW (pv 5) (pv 5)) (pe_op op_fdivW (pv 5) pe_int)) pa_nil)) pe_int))
    (pss_one (ps_expr (pe_bm PySem.F.plainAttrs_list PySem.F.slot_list_append PySem.F.type_list_append mt_append (pv 3) (pa_cons (pe_op op_modN (pe_callTy call_int1 rfl (T.free "int" (T.fa 4 rfl)) (by kernel_rfl) (pa_cons (pe_op op_fdivW (pv 5) pe_int) pa_nil)) (pe_ix ix_list (pv 2) (pv 6) (fun _ _ => rfl))) pa_nil)))))))))
    (pss_one (ps_ret (pv 3))))))))
    (pure_l_draws (T_kf T))
theorem ok_l_is_int (T : TT w K mg base) : OkF Pg w K mg base 2 (He.ga K "_law_is_int") (sp_l_is_int K) :=
  okf_of (d := d_l_is_int) (t := fun E => t_l_is_int K E) (T.df 13 rfl) sc_l_is_int (fun _ _ _ _ h => by obtain ⟨_, rfl, _⟩ := h; rfl)
    (fun _ _ _ _ _ _ us hl => match us, hl with | [_], _ => rfl) (fun cdv A outer s H E nd tk hr =>
    (pss_one (ps_ret (pe_and (pe_callB call_isi rfl (T.free "isinstance" (T.fa 24 rfl)) (by kernel_rfl) (pa_cons (pv 0) (pa_cons (pe_bltn (v := .ty "int") rfl (T.free "int" (T.fa 4 rfl)) (by kernel_rfl) rfl) pa_nil))) (pe_one (pe_not (pe_callB call_isi rfl (T.free "isinstance" (T.fa 24 rfl)) (by kernel_rfl) (pa_cons (pv 0) (pa_cons (pe_bltn (v := .ty "bool") rfl (T.free "bool" (T.fa 25 rfl)) (by kernel_rfl) rfl) pa_nil)))))))))
    (pure_l_is_int (T_kf T))
theorem ok_l_same_none (T : TT w K mg base) : OkF Pg w K mg base 1 (He.ga K "_law_same") (fun _ _ _ _ => False) := by
  obtain ⟨fd, F⟩ := T.df 14 (d := d_l_same) rfl
  exact ⟨fd, ["got", "due"], ⟨fun _ _ _ _ h => h.elim, fun _ _ _ _ _ _ _ _ _ _ _ _ _ h => h.elim⟩, F.binds (fun _ _ _ _ _ _ us hl => match us, hl with | [_, _], _ => rfl)⟩
theorem ok_l_same_0 (T : TT w K mg base) : OkF Pg w K mg base 4 (He.ga K "_law_same") (sp_l_same 0 K) :=
  okf_of (d := d_l_same) (t := fun E => t_l_same K (fun _ _ _ _ => False) E) (T.df 14 rfl) sc_l_same (fun _ _ _ _ h => by obtain ⟨_, _, _, rfl, _⟩ := h; rfl)
    (fun _ _ _ _ _ _ us hl => match us, hl with | [_, _], _ => rfl) (fun cdv A outer s H E nd tk hr =>
    (pss_cons (ps_if (pt_cmpR op_isN (pv 1) pe_non (nomark _)) (pss_one (ps_ret (pe_cmpR op_isN (pv 0) pe_non (nomark _)))) pss_nil)
    (pss_cons (ps_if (pt_cmpR op_isL (pv 1) pe_bl (nomark _)) (pss_one (ps_ret (pe_cmpR op_isL (pv 0) pe_bl (nomark _)))) pss_nil)
    (pss_cons (ps_if (pt_cmpR op_isL (pv 1) pe_bl (nomark _)) (pss_one (ps_ret (pe_cmpR op_isL (pv 0) pe_bl (nomark _)))) pss_nil)
    (pss_cons (ps_if (pt_val (pe_callB call_isi rfl (T.free "isinstance" (T.fa 24 rfl)) (by kernel_rfl) (pa_cons (pv 1) (pa_cons (pe_bltn (v := .ty "int") rfl (T.free "int" (T.fa 4 rfl)) (by kernel_rfl) rfl) pa_nil)))) (pss_one (ps_ret (pe_and (pe_c1 ⟨ok_l_is_int T, hr.mono (by decide), tk⟩ (T.glo "_law_is_int" (T.fa 26 rfl)) (He.keep_ok (x := "_law_is_int") (T.fa 27 rfl)) rfl (pa_cons (pv 0) pa_nil)) (pe_one (pe_cmpR op_eq (pv 0) (pv 1) (nomark _)))))) pss_nil)
    (pss_cons (ps_if (pt_val (pe_callB call_isi rfl (T.free "isinstance" (T.fa 24 rfl)) (by kernel_rfl) (pa_cons (pv 1) (pa_cons (pe_bltn (v := .ty "str") rfl (T.free "str" (T.fa 28 rfl)) (by kernel_rfl) rfl) pa_nil)))) (pss_one (ps_ret (pe_and (pe_callB call_isi rfl (T.free "isinstance" (T.fa 24 rfl)) (by kernel_rfl) (pa_cons (pv 0) (pa_cons (pe_bltn (v := .ty "str") rfl (T.free "str" (T.fa 28 rfl)) (by kernel_rfl) rfl) pa_nil))) (pe_one (pe_cmpR op_eq (pv 0) (pv 1) (nomark _)))))) pss_nil)
    (pss_cons (ps_if (pt_val (pe_callB call_isi rfl (T.free "isinstance" (T.fa 24 rfl)) (by kernel_rfl) (pa_cons (pv 1) (pa_cons (pe_bltn (v := .ty "tuple") rfl (T.free "tuple" (T.fa 29 rfl)) (by kernel_rfl) rfl) pa_nil)))) (pss_one (ps_if (PW.pt (pw_or (pt_not (pt_val (pe_callB call_isi rfl (T.free "isinstance" (T.fa 24 rfl)) (by kernel_rfl) (pa_cons (pv 0) (pa_cons (pe_bltn (v := .ty "tuple") rfl (T.free "tuple" (T.fa 29 rfl)) (by kernel_rfl) rfl) pa_nil))))) (pw_or1 (pt_cmpR op_ne (pe_callB call_len_seq rfl (T.free "len" (T.fa 6 rfl)) boot_len (pa_cons (pv 0) pa_nil)) (pe_callB call_len_seq rfl (T.free "len" (T.fa 6 rfl)) boot_len (pa_cons (pv 1) pa_nil)) (nomark _))))) (pss_one (ps_ret pe_bl)) pss_nil)) (pss_one (ps_if (PW.pt (pw_or (pt_not (pt_val (pe_callB call_isi rfl (T.free "isinstance" (T.fa 24 rfl)) (by kernel_rfl) (pa_cons (pv 0) (pa_cons (pe_bltn (v := .ty "list") rfl (T.free "list" (T.fa 15 rfl)) (by kernel_rfl) rfl) pa_nil))))) (pw_or1 (pt_cmpR op_ne (pe_callB call_len_seq rfl (T.free "len" (T.fa 6 rfl)) boot_len (pa_cons (pv 0) pa_nil)) (pe_callB call_len_seq rfl (T.free "len" (T.fa 6 rfl)) boot_len (pa_cons (pv 1) pa_nil)) (nomark _))))) (pss_one (ps_ret pe_bl)) pss_nil)))
    (pss_cons (ps_for (passes_of rfl) rfl (pi_range1 rfl (T.free "range" (T.fa 7 rfl)) (pa_cons (pe_callB call_len_seq rfl (T.free "len" (T.fa 6 rfl)) boot_len (pa_cons (pv 1) pa_nil)) pa_nil)) (pg_name (i := 2) nd rfl (.inl rfl)) (pss_one (ps_if (pt_not (pt_val (pe_c1 ⟨ok_l_same_none T, hr.mono (by decide), tk⟩ (T.glo "_law_same" (T.fa 30 rfl)) (He.keep_ok (x := "_law_same") (T.fa 31 rfl)) rfl (pa_cons (pe_alt (pe_ix ix_list (pv 0) (pv 2) (fun _ _ => rfl)) (pe_ix ix_tup (pv 0) (pv 2) (fun _ _ => rfl))) (pa_cons (pe_alt (pe_ix ix_list (pv 1) (pv 2) (fun _ _ => rfl)) (pe_ix ix_tup (pv 1) (pv 2) (fun _ _ => rfl))) pa_nil))))) (pss_one (ps_ret pe_bl)) pss_nil)))
    (pss_one (ps_ret pe_bl))))))))))
    (pure_l_same_0 (T_kf T))
theorem ok_l_same_1 (T : TT w K mg base) : OkF Pg w K mg base 5 (He.ga K "_law_same") (sp_l_same 1 K) :=
  okf_of (d := d_l_same) (t := fun E => t_l_same K (sp_l_same 0 K) E) (T.df 14 rfl) sc_l_same (fun _ _ _ _ h => by obtain ⟨_, _, _, rfl, _⟩ := h; rfl)
    (fun _ _ _ _ _ _ us hl => match us, hl with | [_, _], _ => rfl) (fun cdv A outer s H E nd tk hr =>
    (pss_cons (ps_if (pt_cmpR op_isN (pv 1) pe_non (nomark _)) (pss_one (ps_ret (pe_cmpR op_isN (pv 0) pe_non (nomark _)))) pss_nil)
    (pss_cons (ps_if (pt_cmpR op_isL (pv 1) pe_bl (nomark _)) (pss_one (ps_ret (pe_cmpR op_isL (pv 0) pe_bl (nomark _)))) pss_nil)
    (pss_cons (ps_if (pt_cmpR op_isL (pv 1) pe_bl (nomark _)) (pss_one (ps_ret (pe_cmpR op_isL (pv 0) pe_bl (nomark _)))) pss_nil)
    (pss_cons (ps_if (pt_val (pe_callB call_isi rfl (T.free "isinstance" (T.fa 24 rfl)) (by kernel_rfl) (pa_cons (pv 1) (pa_cons (pe_bltn (v := .ty "int") rfl (T.free "int" (T.fa 4 rfl)) (by kernel_rfl) rfl) pa_nil)))) (pss_one (ps_ret (pe_and (pe_c1 ⟨ok_l_is_int T, hr.mono (by decide), tk⟩ (T.glo "_law_is_int" (T.fa 26 rfl)) (He.keep_ok (x := "_law_is_int") (T.fa 27 rfl)) rfl (pa_cons (pv 0) pa_nil)) (pe_one (pe_cmpR op_eq (pv 0) (pv 1) (nomark _)))))) pss_nil)
    (pss_cons (ps_if (pt_val (pe_callB call_isi rfl (T.free "isinstance" (T.fa 24 rfl)) (by kernel_rfl) (pa_cons (pv 1) (pa_cons (pe_bltn (v := .ty "str") rfl (T.free "str" (T.fa 28 rfl)) (by kernel_rfl) rfl) pa_nil)))) (pss_one (ps_ret (pe_and (pe_callB call_isi rfl (T.free "isinstance" (T.fa 24 rfl)) (by kernel_rfl) (pa_cons (pv 0) (pa_cons (pe_bltn (v := .ty "str") rfl (T.free "str" (T.fa 28 rfl)) (by kernel_rfl) rfl) pa_nil))) (pe_one (pe_cmpR op_eq (pv 0) (pv 1) (nomark _)))))) pss_nil)
    (pss_cons (ps_if (pt_val (pe_callB call_isi rfl (T.free "isinstance" (T.fa 24 rfl)) (by kernel_rfl) (pa_cons (pv 1) (pa_cons (pe_bltn (v := .ty "tuple") rfl (T.free "tuple" (T.fa 29 rfl)) (by kernel_rfl) rfl) pa_nil)))) (pss_one (ps_if (PW.pt (pw_or (pt_not (pt_val (pe_callB call_isi rfl (T.free "isinstance" (T.fa 24 rfl)) (by kernel_rfl) (pa_cons (pv 0) (pa_cons (pe_bltn (v := .ty "tuple") rfl (T.free "tuple" (T.fa 29 rfl)) (by kernel_rfl) rfl) pa_nil))))) (pw_or1 (pt_cmpR op_ne (pe_callB call_len_seq rfl (T.free "len" (T.fa 6 rfl)) boot_len (pa_cons (pv 0) pa_nil)) (pe_callB call_len_seq rfl (T.free "len" (T.fa 6 rfl)) boot_len (pa_cons (pv 1) pa_nil)) (nomark _))))) (pss_one (ps_ret pe_bl)) pss_nil)) (pss_one (ps_if (PW.pt (pw_or (pt_not (pt_val (pe_callB call_isi rfl (T.free "isinstance" (T.fa 24 rfl)) (by kernel_rfl) (pa_cons (pv 0) (pa_cons (pe_bltn (v := .ty "list") rfl (T.free "list" (T.fa 15 rfl)) (by kernel_rfl) rfl) pa_nil))))) (pw_or1 (pt_cmpR op_ne (pe_callB call_len_seq rfl (T.free "len" (T.fa 6 rfl)) boot_len (pa_cons (pv 0) pa_nil)) (pe_callB call_len_seq rfl (T.free "len" (T.fa 6 rfl)) boot_len (pa_cons (pv 1) pa_nil)) (nomark _))))) (pss_one (ps_ret pe_bl)) pss_nil)))
    (pss_cons (ps_for (passes_of rfl) rfl (pi_range1 rfl (T.free "range" (T.fa 7 rfl)) (pa_cons (pe_callB call_len_seq rfl (T.free "len" (T.fa 6 rfl)) boot_len (pa_cons (pv 1) pa_nil)) pa_nil)) (pg_name (i := 2) nd rfl (.inl rfl)) (pss_one (ps_if (pt_not (pt_val (pe_c1 ⟨ok_l_same_0 T, hr.mono (by decide), tk⟩ (T.glo "_law_same" (T.fa 30 rfl)) (He.keep_ok (x := "_law_same") (T.fa 31 rfl)) rfl (pa_cons (pe_alt (pe_ix ix_list (pv 0) (pv 2) (fun _ _ => rfl)) (pe_ix ix_tup (pv 0) (pv 2) (fun _ _ => rfl))) (pa_cons (pe_alt (pe_ix ix_list (pv 1) (pv 2) (fun _ _ => rfl)) (pe_ix ix_tup (pv 1) (pv 2) (fun _ _ => rfl))) pa_nil))))) (pss_one (ps_ret pe_bl)) pss_nil)))
    (pss_one (ps_ret pe_bl))))))))))
    (pure_l_same_1 (T_kf T))
theorem ok_l_digits (T : TT w K mg base) : OkF Pg w K mg base 4 (He.ga K "_law_digits") (sp_l_digits K) :=
  okf_of (d := d_l_digits) (t := fun E => t_l_digits K E) (T.df 15 rfl) sc_l_digits (fun _ _ _ _ h => by obtain ⟨_, _, rfl, _⟩ := h; rfl)
    (fun _ _ _ _ _ _ us hl => match us, hl with | [_, _], _ => rfl) (fun cdv A outer s H E nd tk hr =>
    (pss_cons (ps_set (i := 2) nd rfl (.inl rfl) pe_int)
    (pss_cons (ps_for (passes_of rfl) rfl (pi_list (pe_c1 ⟨ok_l_draws T, hr.mono (by decide), tk⟩ (T.glo "_law_draws" (T.fa 32 rfl)) (He.keep_ok (x := "_law_draws") (T.fa 33 rfl)) rfl (pa_cons (pv 0) (pa_cons (pv 1) (pa_cons (pe_op op_rep (pe_lst (pa_cons (pe_op op_pow pe_int pe_int) pa_nil)) pe_int) pa_nil))))) (pg_name (i := 3) nd rfl (.inl rfl)) (pss_one (ps_set (i := 2) nd rfl (.inl rfl) (pe_op op_add (pe_op op_mulW (pv 2) (pe_op op_pow pe_int pe_int)) (pv 3)))))
    (pss_one (ps_ret (pv 2))))))
    (pure_l_digits (T_kf T))
theorem ok_l_bits (T : TT w K mg base) : OkF Pg w K mg base 2 (He.ga K "_law_bits") (sp_l_bits K) :=
  okf_of (d := d_l_bits) (t := fun E => t_l_bits K E) (T.df 16 rfl) sc_l_bits (fun _ _ _ _ h => by obtain ⟨_, _, rfl, _⟩ := h; rfl)
    (fun _ _ _ _ _ _ us hl => match us, hl with | [_, _], _ => rfl) (fun cdv A outer s H E nd tk hr =>
    (pss_cons (ps_set (i := 2) nd rfl (.inl rfl) (pe_lst pa_nil))
    (pss_cons (ps_for (passes_of rfl) rfl (pi_range1 rfl (T.free "range" (T.fa 7 rfl)) (pa_cons (pv 0) pa_nil)) (pg_name (i := 3) nd rfl (.inl rfl)) (pss_cons (ps_if (pt_cmpR op_eq (pe_op op_modN (pe_callTy call_int1 rfl (T.free "int" (T.fa 4 rfl)) (by kernel_rfl) (pa_cons (pv 1) pa_nil)) pe_int) pe_int (nomark _)) (pss_one (ps_expr (pe_bm PySem.F.plainAttrs_list PySem.F.slot_list_append PySem.F.type_list_append mt_append (pv 2) (pa_cons (pv 3) pa_nil)))) pss_nil)
    (pss_one (ps_set (i := 1) nd rfl (.inl rfl) (pe_op op_fdivW (pv 1) pe_int)))))
    (pss_one (ps_ret (pv 2))))))
    (pure_l_bits (T_kf T))
theorem ok_l_subset (T : TT w K mg base) : OkF Pg w K mg base 4 (He.ga K "_law_subset") (sp_l_subset K) :=
  okf_of (d := d_l_subset) (t := fun E => t_l_subset K E) (T.df 17 rfl) sc_l_subset (fun _ _ _ _ h => by obtain ⟨_, _, _, rfl, _⟩ := h; rfl)
    (fun _ _ _ _ _ _ us hl => match us, hl with | [_, _, _], _ => rfl) (fun cdv A outer s H E nd tk hr =>
    (pss_cons (ps_set (i := 3) nd rfl (.inl rfl) (pe_lst pa_nil))
    (pss_cons (ps_set (i := 4) nd rfl (.inl rfl) (pe_c1 ⟨ok_l_draws T, hr.mono (by decide), tk⟩ (T.glo "_law_draws" (T.fa 32 rfl)) (He.keep_ok (x := "_law_draws") (T.fa 33 rfl)) rfl (pa_cons (pv 0) (pa_cons (pv 1) (pa_cons (pe_op op_rep (pe_lst (pa_cons (pe_op op_pow pe_int pe_int) pa_nil)) (pe_op op_add pe_int (pe_op op_fdivW (pe_op op_sub (pv 2) pe_int) pe_int))) pa_nil)))))
    (pss_cons (ps_for (passes_of rfl) rfl (pi_range1 rfl (T.free "range" (T.fa 7 rfl)) (pa_cons (pe_callB call_len_seq rfl (T.free "len" (T.fa 6 rfl)) boot_len (pa_cons (pv 4) pa_nil)) pa_nil)) (pg_name (i := 5) nd rfl (.inr rfl)) (pss_one (ps_set (i := 3) nd rfl (.inl rfl) (pe_op op_cat (pv 3) (pe_lc (own := [("h", 6)]) rfl nd (pi_list (pe_c1 ⟨ok_l_bits T, hr.mono (by decide), tk⟩ (T.glo "_law_bits" (T.fa 34 rfl)) (He.keep_ok (x := "_law_bits") (T.fa 35 rfl)) rfl (pa_cons pe_int (pa_cons (pe_ix ix_list (pv 4) (pv 5) (fun _ _ => rfl)) pa_nil)))) (blkOk_by (own := [("h", 6)]) (by kernel_rfl)) (fun _ _ _ _ _ => (pg_name (i := 6) nd rfl (.inl rfl))) (fun _ _ _ _ _ => pts_one (pt_cmpR op_lt (pe_op op_add (pe_op op_mulW pe_int (pv 5)) (pv 6)) (pv 2) (nomark _))) (fun _ _ _ _ _ => (pe_op op_add (pe_op op_mulW pe_int (pv 5)) (pv 6))))))))
    (pss_one (ps_ret (pv 3)))))))
    (pure_l_subset (T_kf T))
theorem ok_l_drawn_lot (T : TT w K mg base) : OkF Pg w K mg base 6 (He.ga K "_law_drawn_lot") (sp_l_drawn_lot K) :=
  okf_of (d := d_l_drawn_lot) (t := fun E => t_l_drawn_lot K E) (T.df 18 rfl) sc_l_drawn_lot (fun _ _ _ _ h => by obtain ⟨_, _, _, _, rfl, _⟩ := h; rfl)
    (fun _ _ _ _ _ _ us hl => match us, hl with | [_, _, _, _], _ => rfl) (fun cdv A outer s H E nd tk hr =>
    (pss_cons (ps_if (pt_cmpR op_eq (pv 3) pe_int (nomark _)) (pss_one (ps_ret (pe_lst pa_nil))) pss_nil)
    (pss_cons (ps_if (pt_cmpR op_eq (pv 3) pe_int (nomark _)) (pss_one (ps_ret (pe_listRg rfl rfl (T.free "list" (T.fa 15 rfl)) (prg_1 rfl (T.free "range" (T.fa 7 rfl)) (pv 2))))) pss_nil)
    (pss_cons (ps_set (i := 4) nd rfl (.inl rfl) (pe_c1 ⟨ok_l_subset T, hr.mono (by decide), tk⟩ (T.glo "_law_subset" (T.fa 36 rfl)) (He.keep_ok (x := "_law_subset") (T.fa 37 rfl)) rfl (pa_cons (pv 0) (pa_cons (pv 1) (pa_cons (pv 2) pa_nil)))))
    (pss_cons (ps_if (pt_cmpR op_eq (pv 3) pe_int (nomark _)) (pss_one (ps_ret (pe_slice sl_list (pv 4) po_none (po_some pe_int)))) pss_nil)
    (pss_one (ps_ret (pv 4))))))))
    (pure_l_drawn_lot (T_kf T))
theorem ok_l_divisors (T : TT w K mg base) : OkF Pg w K mg base 2 (He.ga K "_law_divisors") (sp_l_divisors K) :=
  okf_of (d := d_l_divisors) (t := fun E => t_l_divisors K E) (T.df 19 rfl) sc_l_divisors (fun _ _ _ _ h => by obtain ⟨_, rfl, _⟩ := h; rfl)
    (fun _ _ _ _ _ _ us hl => match us, hl with | [_], _ => rfl) (fun cdv A outer s H E nd tk hr =>
    (pss_one (ps_ret (pe_lc (own := [("part", 1)]) rfl nd (pi_range2 rfl (T.free "range" (T.fa 7 rfl)) (pa_cons pe_int (pa_cons (pe_op op_add (pv 0) pe_int) pa_nil))) (blkOk_by (own := [("part", 1)]) (by kernel_rfl)) (fun _ _ _ _ _ => (pg_name (i := 1) nd rfl (.inl rfl))) (fun _ _ _ _ _ => pts_one (pt_cmpR op_eq (pe_op op_modN (pe_callTy call_int1 rfl (T.free "int" (T.fa 4 rfl)) (by kernel_rfl) (pa_cons (pv 0) pa_nil)) (pv 1)) pe_int (nomark _))) (fun _ _ _ _ _ => (pv 1))))))
    (pure_l_divisors (T_kf T))
theorem ok_l_numbers (T : TT w K mg base) : OkF Pg w K mg base 6 (He.ga K "_law_numbers") (sp_l_numbers K) :=
  okf_of (d := d_l_numbers) (t := fun E => t_l_numbers K E) (T.df 20 rfl) sc_l_numbers (fun _ _ _ _ h => by obtain ⟨_, _, _, rfl, _⟩ := h; rfl)
    (fun _ _ _ _ _ _ us hl => match us, hl with | [_, _], _ => rfl) (fun cdv A outer s H E nd tk hr =>
    (pss_cons (ps_set (i := 2) nd rfl (.inl rfl) (pe_c1 ⟨ok_l_draws T, hr.mono (by decide), tk⟩ (T.glo "_law_draws" (T.fa 32 rfl)) (He.keep_ok (x := "_law_draws") (T.fa 33 rfl)) rfl (pa_cons (pe_c1 ⟨ok_l_cell T, hr.mono (by decide), tk⟩ (T.glo "_law_cell" (T.fa 38 rfl)) (He.keep_ok (x := "_law_cell") (T.fa 39 rfl)) rfl (pa_cons (pv 0) (pa_cons pe_int pa_nil))) (pa_cons pe_int (pa_cons (pe_lst (pa_cons pe_int (pa_cons pe_int (pa_cons pe_int (pa_cons pe_int (pa_cons pe_int pa_nil)))))) pa_nil)))))
    (pss_cons (ps_set (i := 3) nd rfl (.inl rfl) (pe_c1 ⟨ok_l_digits T, hr.mono (by decide), tk⟩ (T.glo "_law_digits" (T.fa 40 rfl)) (He.keep_ok (x := "_law_digits") (T.fa 41 rfl)) rfl (pa_cons (pe_c1 ⟨ok_l_cell T, hr.mono (by decide), tk⟩ (T.glo "_law_cell" (T.fa 38 rfl)) (He.keep_ok (x := "_law_cell") (T.fa 39 rfl)) rfl (pa_cons (pv 0) (pa_cons pe_int pa_nil))) (pa_cons pe_int pa_nil))))
    (pss_cons (ps_set (i := 4) nd rfl (.inl rfl) (pe_ix ix_list (pe_lst (pa_cons pe_int (pa_cons pe_int (pa_cons (pe_op op_sub (pv 1) pe_int) (pa_cons (pe_op op_modN (pe_callTy call_int1 rfl (T.free "int" (T.fa 4 rfl)) (by kernel_rfl) (pa_cons (pv 3) pa_nil)) (pv 1)) (pa_cons (pv 3) (pa_cons (pv 3) pa_nil))))))) (pe_ix ix_list (pv 2) pe_int (fun _ _ => rfl)) (fun _ _ => rfl)))
    (pss_cons (ps_if (pt_cmpR op_eq (pe_ix ix_list (pv 2) pe_int (fun _ _ => rfl)) pe_int (nomark _)) (pss_one (ps_set (i := 4) nd rfl (.inl rfl) (pe_op op_sub pe_int (pv 4)))) pss_nil)
    (pss_cons (ps_set (i := 5) nd rfl (.inl rfl) (pe_c1 ⟨ok_l_divisors T, hr.mono (by decide), tk⟩ (T.glo "_law_divisors" (T.fa 42 rfl)) (He.keep_ok (x := "_law_divisors") (T.fa 43 rfl)) rfl (pa_cons (pv 1) pa_nil)))
    (pss_cons (ps_set (i := 6) nd rfl (.inl rfl) (pe_ix ix_list (pv 5) (pe_op op_modN (pe_callTy call_int1 rfl (T.free "int" (T.fa 4 rfl)) (by kernel_rfl) (pa_cons (pe_ix ix_list (pv 2) pe_int (fun _ _ => rfl)) pa_nil)) (pe_callB call_len_seq rfl (T.free "len" (T.fa 6 rfl)) boot_len (pa_cons (pv 5) pa_nil))) (fun _ _ => rfl)))
    (pss_one (ps_ret (pe_tup (pa_cons (pv 4) (pa_cons (pe_ix ix_list (pe_lst (pa_cons (pv 6) (pa_cons (pv 6) (pa_cons pe_int (pa_cons (pe_op op_sub pe_int (pv 6)) (pa_cons (pe_op op_add pe_int (pe_op op_modN (pe_callTy call_int1 rfl (T.free "int" (T.fa 4 rfl)) (by kernel_rfl) (pa_cons (pv 3) pa_nil)) pe_int)) (pa_cons (pv 3) pa_nil))))))) (pe_ix ix_list (pv 2) pe_int (fun _ _ => rfl)) (fun _ _ => rfl)) (pa_cons (pe_ix ix_list (pv 2) pe_int (fun _ _ => rfl)) pa_nil)))))))))))))
    (pure_l_numbers (T_kf T))
theorem ok_l_copies_to_21 (T : TT w K mg base) : OkF Pg w K mg base 8 (He.ga K "_law_copies_to_21") (sp_l_copies_to_21 K) :=
  okf_of (d := d_l_copies_to_21) (t := fun E => t_l_copies_to_21 K E) (T.df 21 rfl) sc_l_copies_to_21 (fun _ _ _ _ h => by obtain ⟨_, _, _, _, rfl, _⟩ := h; rfl)
    (fun _ _ _ _ _ _ us hl => match us, hl with | [_, _], _ => rfl) (fun cdv A outer s H E nd tk hr =>
    (pss_cons (ps_if (pt_cmpR op_eq (pv 1) pe_int (nomark _)) (pss_one (ps_ret (pe_binN (op := .Pow) (opF_ok (T.fa 44 rfl)) ⟨ok_Lot_pow T, hr.mono (by decide), tk⟩ (by kernel_rfl) (by kernel_rfl) (pv 0) pe_int))) pss_nil)
    (pss_cons (ps_if (pt_cmpR op_eq (pv 1) pe_int (nomark _)) (pss_one (ps_ret (pe_binN (op := .Pow) (opF_ok (T.fa 44 rfl)) ⟨ok_Lot_pow T, hr.mono (by decide), tk⟩ (by kernel_rfl) (by kernel_rfl) (pv 0) pe_int))) pss_nil)
    (pss_cons (ps_if (pt_cmpR op_eq (pv 1) pe_int (nomark _)) (pss_one (ps_ret (pe_binN (op := .Pow) (opF_ok (T.fa 44 rfl)) ⟨ok_Lot_pow T, hr.mono (by decide), tk⟩ (by kernel_rfl) (by kernel_rfl) (pv 0) pe_int))) pss_nil)
    (pss_cons (ps_if (pt_cmpR op_eq (pv 1) pe_int (nomark _)) (pss_one (ps_ret (pe_binN (op := .Pow) (opF_ok (T.fa 44 rfl)) ⟨ok_Lot_pow T, hr.mono (by decide), tk⟩ (by kernel_rfl) (by kernel_rfl) (pv 0) pe_int))) pss_nil)
    (pss_cons (ps_if (pt_cmpR op_eq (pv 1) pe_int (nomark _)) (pss_one (ps_ret (pe_binN (op := .Pow) (opF_ok (T.fa 44 rfl)) ⟨ok_Lot_pow T, hr.mono (by decide), tk⟩ (by kernel_rfl) (by kernel_rfl) (pv 0) pe_int))) pss_nil)
    (pss_cons (ps_if (pt_cmpR op_eq (pv 1) pe_int (nomark _)) (pss_one (ps_ret (pe_binN (op := .Pow) (opF_ok (T.fa 44 rfl)) ⟨ok_Lot_pow T, hr.mono (by decide), tk⟩ (by kernel_rfl) (by kernel_rfl) (pv 0) pe_int))) pss_nil)
    (pss_cons (ps_if (pt_cmpR op_eq (pv 1) pe_int (nomark _)) (pss_one (ps_ret (pe_binN (op := .Pow) (opF_ok (T.fa 44 rfl)) ⟨ok_Lot_pow T, hr.mono (by decide), tk⟩ (by kernel_rfl) (by kernel_rfl) (pv 0) pe_int))) pss_nil)
    (pss_cons (ps_if (pt_cmpR op_eq (pv 1) pe_int (nomark _)) (pss_one (ps_ret (pe_binN (op := .Pow) (opF_ok (T.fa 44 rfl)) ⟨ok_Lot_pow T, hr.mono (by decide), tk⟩ (by kernel_rfl) (by kernel_rfl) (pv 0) pe_int))) pss_nil)
    (pss_cons (ps_if (pt_cmpR op_eq (pv 1) pe_int (nomark _)) (pss_one (ps_ret (pe_binN (op := .Pow) (opF_ok (T.fa 44 rfl)) ⟨ok_Lot_pow T, hr.mono (by decide), tk⟩ (by kernel_rfl) (by kernel_rfl) (pv 0) pe_int))) pss_nil)
    (pss_cons (ps_if (pt_cmpR op_eq (pv 1) pe_int (nomark _)) (pss_one (ps_ret (pe_binN (op := .Pow) (opF_ok (T.fa 44 rfl)) ⟨ok_Lot_pow T, hr.mono (by decide), tk⟩ (by kernel_rfl) (by kernel_rfl) (pv 0) pe_int))) pss_nil)
    (pss_cons (ps_if (pt_cmpR op_eq (pv 1) pe_int (nomark _)) (pss_one (ps_ret (pe_binN (op := .Pow) (opF_ok (T.fa 44 rfl)) ⟨ok_Lot_pow T, hr.mono (by decide), tk⟩ (by kernel_rfl) (by kernel_rfl) (pv 0) pe_int))) pss_nil)
    (pss_cons (ps_if (pt_cmpR op_eq (pv 1) pe_int (nomark _)) (pss_one (ps_ret (pe_binN (op := .Pow) (opF_ok (T.fa 44 rfl)) ⟨ok_Lot_pow T, hr.mono (by decide), tk⟩ (by kernel_rfl) (by kernel_rfl) (pv 0) pe_int))) pss_nil)
    (pss_cons (ps_if (pt_cmpR op_eq (pv 1) pe_int (nomark _)) (pss_one (ps_ret (pe_binN (op := .Pow) (opF_ok (T.fa 44 rfl)) ⟨ok_Lot_pow T, hr.mono (by decide), tk⟩ (by kernel_rfl) (by kernel_rfl) (pv 0) pe_int))) pss_nil)
    (pss_cons (ps_if (pt_cmpR op_eq (pv 1) pe_int (nomark _)) (pss_one (ps_ret (pe_binN (op := .Pow) (opF_ok (T.fa 44 rfl)) ⟨ok_Lot_pow T, hr.mono (by decide), tk⟩ (by kernel_rfl) (by kernel_rfl) (pv 0) pe_int))) pss_nil)
    (pss_cons (ps_if (pt_cmpR op_eq (pv 1) pe_int (nomark _)) (pss_one (ps_ret (pe_binN (op := .Pow) (opF_ok (T.fa 44 rfl)) ⟨ok_Lot_pow T, hr.mono (by decide), tk⟩ (by kernel_rfl) (by kernel_rfl) (pv 0) pe_int))) pss_nil)
    (pss_cons (ps_if (pt_cmpR op_eq (pv 1) pe_int (nomark _)) (pss_one (ps_ret (pe_binN (op := .Pow) (opF_ok (T.fa 44 rfl)) ⟨ok_Lot_pow T, hr.mono (by decide), tk⟩ (by kernel_rfl) (by kernel_rfl) (pv 0) pe_int))) pss_nil)
    (pss_cons (ps_if (pt_cmpR op_eq (pv 1) pe_int (nomark _)) (pss_one (ps_ret (pe_binN (op := .Pow) (opF_ok (T.fa 44 rfl)) ⟨ok_Lot_pow T, hr.mono (by decide), tk⟩ (by kernel_rfl) (by kernel_rfl) (pv 0) pe_int))) pss_nil)
    (pss_cons (ps_if (pt_cmpR op_eq (pv 1) pe_int (nomark _)) (pss_one (ps_ret (pe_binN (op := .Pow) (opF_ok (T.fa 44 rfl)) ⟨ok_Lot_pow T, hr.mono (by decide), tk⟩ (by kernel_rfl) (by kernel_rfl) (pv 0) pe_int))) pss_nil)
    (pss_cons (ps_if (pt_cmpR op_eq (pv 1) pe_int (nomark _)) (pss_one (ps_ret (pe_binN (op := .Pow) (opF_ok (T.fa 44 rfl)) ⟨ok_Lot_pow T, hr.mono (by decide), tk⟩ (by kernel_rfl) (by kernel_rfl) (pv 0) pe_int))) pss_nil)
    (pss_cons (ps_if (pt_cmpR op_eq (pv 1) pe_int (nomark _)) (pss_one (ps_ret (pe_binN (op := .Pow) (opF_ok (T.fa 44 rfl)) ⟨ok_Lot_pow T, hr.mono (by decide), tk⟩ (by kernel_rfl) (by kernel_rfl) (pv 0) pe_int))) pss_nil)
    (pss_cons (ps_if (pt_cmpR op_eq (pv 1) pe_int (nomark _)) (pss_one (ps_ret (pe_binN (op := .Pow) (opF_ok (T.fa 44 rfl)) ⟨ok_Lot_pow T, hr.mono (by decide), tk⟩ (by kernel_rfl) (by kernel_rfl) (pv 0) pe_int))) pss_nil)
    (pss_one (ps_ret (pe_binN (op := .Pow) (opF_ok (T.fa 44 rfl)) ⟨ok_Lot_pow T, hr.mono (by decide), tk⟩ (by kernel_rfl) (by kernel_rfl) (pv 0) pe_int)))))))))))))))))))))))))
    (pure_l_copies_to_21 (T_kf T))
theorem ok_l_copies_to_43 (T : TT w K mg base) : OkF Pg w K mg base 8 (He.ga K "_law_copies_to_43") (sp_l_copies_to_43 K) :=
  okf_of (d := d_l_copies_to_43) (t := fun E => t_l_copies_to_43 K E) (T.df 22 rfl) sc_l_copies_to_43 (fun _ _ _ _ h => by obtain ⟨_, _, _, _, rfl, _⟩ := h; rfl)
    (fun _ _ _ _ _ _ us hl => match us, hl with | [_, _], _ => rfl) (fun cdv A outer s H E nd tk hr =>
    (pss_cons (ps_if (pt_cmpR op_eq (pv 1) pe_int (nomark _)) (pss_one (ps_ret (pe_binN (op := .Pow) (opF_ok (T.fa 44 rfl)) ⟨ok_Lot_pow T, hr.mono (by decide), tk⟩ (by kernel_rfl) (by kernel_rfl) (pv 0) pe_int))) pss_nil)
    (pss_cons (ps_if (pt_cmpR op_eq (pv 1) pe_int (nomark _)) (pss_one (ps_ret (pe_binN (op := .Pow) (opF_ok (T.fa 44 rfl)) ⟨ok_Lot_pow T, hr.mono (by decide), tk⟩ (by kernel_rfl) (by kernel_rfl) (pv 0) pe_int))) pss_nil)
    (pss_cons (ps_if (pt_cmpR op_eq (pv 1) pe_int (nomark _)) (pss_one (ps_ret (pe_binN (op := .Pow) (opF_ok (T.fa 44 rfl)) ⟨ok_Lot_pow T, hr.mono (by decide), tk⟩ (by kernel_rfl) (by kernel_rfl) (pv 0) pe_int))) pss_nil)
    (pss_cons (ps_if (pt_cmpR op_eq (pv 1) pe_int (nomark _)) (pss_one (ps_ret (pe_binN (op := .Pow) (opF_ok (T.fa 44 rfl)) ⟨ok_Lot_pow T, hr.mono (by decide), tk⟩ (by kernel_rfl) (by kernel_rfl) (pv 0) pe_int))) pss_nil)
    (pss_cons (ps_if (pt_cmpR op_eq (pv 1) pe_int (nomark _)) (pss_one (ps_ret (pe_binN (op := .Pow) (opF_ok (T.fa 44 rfl)) ⟨ok_Lot_pow T, hr.mono (by decide), tk⟩ (by kernel_rfl) (by kernel_rfl) (pv 0) pe_int))) pss_nil)
    (pss_cons (ps_if (pt_cmpR op_eq (pv 1) pe_int (nomark _)) (pss_one (ps_ret (pe_binN (op := .Pow) (opF_ok (T.fa 44 rfl)) ⟨ok_Lot_pow T, hr.mono (by decide), tk⟩ (by kernel_rfl) (by kernel_rfl) (pv 0) pe_int))) pss_nil)
    (pss_cons (ps_if (pt_cmpR op_eq (pv 1) pe_int (nomark _)) (pss_one (ps_ret (pe_binN (op := .Pow) (opF_ok (T.fa 44 rfl)) ⟨ok_Lot_pow T, hr.mono (by decide), tk⟩ (by kernel_rfl) (by kernel_rfl) (pv 0) pe_int))) pss_nil)
    (pss_cons (ps_if (pt_cmpR op_eq (pv 1) pe_int (nomark _)) (pss_one (ps_ret (pe_binN (op := .Pow) (opF_ok (T.fa 44 rfl)) ⟨ok_Lot_pow T, hr.mono (by decide), tk⟩ (by kernel_rfl) (by kernel_rfl) (pv 0) pe_int))) pss_nil)
    (pss_cons (ps_if (pt_cmpR op_eq (pv 1) pe_int (nomark _)) (pss_one (ps_ret (pe_binN (op := .Pow) (opF_ok (T.fa 44 rfl)) ⟨ok_Lot_pow T, hr.mono (by decide), tk⟩ (by kernel_rfl) (by kernel_rfl) (pv 0) pe_int))) pss_nil)
    (pss_cons (ps_if (pt_cmpR op_eq (pv 1) pe_int (nomark _)) (pss_one (ps_ret (pe_binN (op := .Pow) (opF_ok (T.fa 44 rfl)) ⟨ok_Lot_pow T, hr.mono (by decide), tk⟩ (by kernel_rfl) (by kernel_rfl) (pv 0) pe_int))) pss_nil)
    (pss_cons (ps_if (pt_cmpR op_eq (pv 1) pe_int (nomark _)) (pss_one (ps_ret (pe_binN (op := .Pow) (opF_ok (T.fa 44 rfl)) ⟨ok_Lot_pow T, hr.mono (by decide), tk⟩ (by kernel_rfl) (by kernel_rfl) (pv 0) pe_int))) pss_nil)
    (pss_cons (ps_if (pt_cmpR op_eq (pv 1) pe_int (nomark _)) (pss_one (ps_ret (pe_binN (op := .Pow) (opF_ok (T.fa 44 rfl)) ⟨ok_Lot_pow T, hr.mono (by decide), tk⟩ (by kernel_rfl) (by kernel_rfl) (pv 0) pe_int))) pss_nil)
    (pss_cons (ps_if (pt_cmpR op_eq (pv 1) pe_int (nomark _)) (pss_one (ps_ret (pe_binN (op := .Pow) (opF_ok (T.fa 44 rfl)) ⟨ok_Lot_pow T, hr.mono (by decide), tk⟩ (by kernel_rfl) (by kernel_rfl) (pv 0) pe_int))) pss_nil)
    (pss_cons (ps_if (pt_cmpR op_eq (pv 1) pe_int (nomark _)) (pss_one (ps_ret (pe_binN (op := .Pow) (opF_ok (T.fa 44 rfl)) ⟨ok_Lot_pow T, hr.mono (by decide), tk⟩ (by kernel_rfl) (by kernel_rfl) (pv 0) pe_int))) pss_nil)
    (pss_cons (ps_if (pt_cmpR op_eq (pv 1) pe_int (nomark _)) (pss_one (ps_ret (pe_binN (op := .Pow) (opF_ok (T.fa 44 rfl)) ⟨ok_Lot_pow T, hr.mono (by decide), tk⟩ (by kernel_rfl) (by kernel_rfl) (pv 0) pe_int))) pss_nil)
    (pss_cons (ps_if (pt_cmpR op_eq (pv 1) pe_int (nomark _)) (pss_one (ps_ret (pe_binN (op := .Pow) (opF_ok (T.fa 44 rfl)) ⟨ok_Lot_pow T, hr.mono (by decide), tk⟩ (by kernel_rfl) (by kernel_rfl) (pv 0) pe_int))) pss_nil)
    (pss_cons (ps_if (pt_cmpR op_eq (pv 1) pe_int (nomark _)) (pss_one (ps_ret (pe_binN (op := .Pow) (opF_ok (T.fa 44 rfl)) ⟨ok_Lot_pow T, hr.mono (by decide), tk⟩ (by kernel_rfl) (by kernel_rfl) (pv 0) pe_int))) pss_nil)
    (pss_cons (ps_if (pt_cmpR op_eq (pv 1) pe_int (nomark _)) (pss_one (ps_ret (pe_binN (op := .Pow) (opF_ok (T.fa 44 rfl)) ⟨ok_Lot_pow T, hr.mono (by decide), tk⟩ (by kernel_rfl) (by kernel_rfl) (pv 0) pe_int))) pss_nil)
    (pss_cons (ps_if (pt_cmpR op_eq (pv 1) pe_int (nomark _)) (pss_one (ps_ret (pe_binN (op := .Pow) (opF_ok (T.fa 44 rfl)) ⟨ok_Lot_pow T, hr.mono (by decide), tk⟩ (by kernel_rfl) (by kernel_rfl) (pv 0) pe_int))) pss_nil)
    (pss_cons (ps_if (pt_cmpR op_eq (pv 1) pe_int (nomark _)) (pss_one (ps_ret (pe_binN (op := .Pow) (opF_ok (T.fa 44 rfl)) ⟨ok_Lot_pow T, hr.mono (by decide), tk⟩ (by kernel_rfl) (by kernel_rfl) (pv 0) pe_int))) pss_nil)
    (pss_cons (ps_if (pt_cmpR op_eq (pv 1) pe_int (nomark _)) (pss_one (ps_ret (pe_binN (op := .Pow) (opF_ok (T.fa 44 rfl)) ⟨ok_Lot_pow T, hr.mono (by decide), tk⟩ (by kernel_rfl) (by kernel_rfl) (pv 0) pe_int))) pss_nil)
    (pss_one (ps_ret (pe_binN (op := .Pow) (opF_ok (T.fa 44 rfl)) ⟨ok_Lot_pow T, hr.mono (by decide), tk⟩ (by kernel_rfl) (by kernel_rfl) (pv 0) pe_int)))))))))))))))))))))))))
    (pure_l_copies_to_43 (T_kf T))
theorem ok_l_copies_to_64 (T : TT w K mg base) : OkF Pg w K mg base 8 (He.ga K "_law_copies_to_64") (sp_l_copies_to_64 K) :=
  okf_of (d := d_l_copies_to_64) (t := fun E => t_l_copies_to_64 K E) (T.df 23 rfl) sc_l_copies_to_64 (fun _ _ _ _ h => by obtain ⟨_, _, _, _, rfl, _⟩ := h; rfl)
    (fun _ _ _ _ _ _ us hl => match us, hl with | [_, _], _ => rfl) (fun cdv A outer s H E nd tk hr =>
    (pss_cons (ps_if (pt_cmpR op_eq (pv 1) pe_int (nomark _)) (pss_one (ps_ret (pe_binN (op := .Pow) (opF_ok (T.fa 44 rfl)) ⟨ok_Lot_pow T, hr.mono (by decide), tk⟩ (by kernel_rfl) (by kernel_rfl) (pv 0) pe_int))) pss_nil)
    (pss_cons (ps_if (pt_cmpR op_eq (pv 1) pe_int (nomark _)) (pss_one (ps_ret (pe_binN (op := .Pow) (opF_ok (T.fa 44 rfl)) ⟨ok_Lot_pow T, hr.mono (by decide), tk⟩ (by kernel_rfl) (by kernel_rfl) (pv 0) pe_int))) pss_nil)
    (pss_cons (ps_if (pt_cmpR op_eq (pv 1) pe_int (nomark _)) (pss_one (ps_ret (pe_binN (op := .Pow) (opF_ok (T.fa 44 rfl)) ⟨ok_Lot_pow T, hr.mono (by decide), tk⟩ (by kernel_rfl) (by kernel_rfl) (pv 0) pe_int))) pss_nil)
    (pss_cons (ps_if (pt_cmpR op_eq (pv 1) pe_int (nomark _)) (pss_one (ps_ret (pe_binN (op := .Pow) (opF_ok (T.fa 44 rfl)) ⟨ok_Lot_pow T, hr.mono (by decide), tk⟩ (by kernel_rfl) (by kernel_rfl) (pv 0) pe_int))) pss_nil)
    (pss_cons (ps_if (pt_cmpR op_eq (pv 1) pe_int (nomark _)) (pss_one (ps_ret (pe_binN (op := .Pow) (opF_ok (T.fa 44 rfl)) ⟨ok_Lot_pow T, hr.mono (by decide), tk⟩ (by kernel_rfl) (by kernel_rfl) (pv 0) pe_int))) pss_nil)
    (pss_cons (ps_if (pt_cmpR op_eq (pv 1) pe_int (nomark _)) (pss_one (ps_ret (pe_binN (op := .Pow) (opF_ok (T.fa 44 rfl)) ⟨ok_Lot_pow T, hr.mono (by decide), tk⟩ (by kernel_rfl) (by kernel_rfl) (pv 0) pe_int))) pss_nil)
    (pss_cons (ps_if (pt_cmpR op_eq (pv 1) pe_int (nomark _)) (pss_one (ps_ret (pe_binN (op := .Pow) (opF_ok (T.fa 44 rfl)) ⟨ok_Lot_pow T, hr.mono (by decide), tk⟩ (by kernel_rfl) (by kernel_rfl) (pv 0) pe_int))) pss_nil)
    (pss_cons (ps_if (pt_cmpR op_eq (pv 1) pe_int (nomark _)) (pss_one (ps_ret (pe_binN (op := .Pow) (opF_ok (T.fa 44 rfl)) ⟨ok_Lot_pow T, hr.mono (by decide), tk⟩ (by kernel_rfl) (by kernel_rfl) (pv 0) pe_int))) pss_nil)
    (pss_cons (ps_if (pt_cmpR op_eq (pv 1) pe_int (nomark _)) (pss_one (ps_ret (pe_binN (op := .Pow) (opF_ok (T.fa 44 rfl)) ⟨ok_Lot_pow T, hr.mono (by decide), tk⟩ (by kernel_rfl) (by kernel_rfl) (pv 0) pe_int))) pss_nil)
    (pss_cons (ps_if (pt_cmpR op_eq (pv 1) pe_int (nomark _)) (pss_one (ps_ret (pe_binN (op := .Pow) (opF_ok (T.fa 44 rfl)) ⟨ok_Lot_pow T, hr.mono (by decide), tk⟩ (by kernel_rfl) (by kernel_rfl) (pv 0) pe_int))) pss_nil)
    (pss_cons (ps_if (pt_cmpR op_eq (pv 1) pe_int (nomark _)) (pss_one (ps_ret (pe_binN (op := .Pow) (opF_ok (T.fa 44 rfl)) ⟨ok_Lot_pow T, hr.mono (by decide), tk⟩ (by kernel_rfl) (by kernel_rfl) (pv 0) pe_int))) pss_nil)
    (pss_cons (ps_if (pt_cmpR op_eq (pv 1) pe_int (nomark _)) (pss_one (ps_ret (pe_binN (op := .Pow) (opF_ok (T.fa 44 rfl)) ⟨ok_Lot_pow T, hr.mono (by decide), tk⟩ (by kernel_rfl) (by kernel_rfl) (pv 0) pe_int))) pss_nil)
    (pss_cons (ps_if (pt_cmpR op_eq (pv 1) pe_int (nomark _)) (pss_one (ps_ret (pe_binN (op := .Pow) (opF_ok (T.fa 44 rfl)) ⟨ok_Lot_pow T, hr.mono (by decide), tk⟩ (by kernel_rfl) (by kernel_rfl) (pv 0) pe_int))) pss_nil)
    (pss_cons (ps_if (pt_cmpR op_eq (pv 1) pe_int (nomark _)) (pss_one (ps_ret (pe_binN (op := .Pow) (opF_ok (T.fa 44 rfl)) ⟨ok_Lot_pow T, hr.mono (by decide), tk⟩ (by kernel_rfl) (by kernel_rfl) (pv 0) pe_int))) pss_nil)
    (pss_cons (ps_if (pt_cmpR op_eq (pv 1) pe_int (nomark _)) (pss_one (ps_ret (pe_binN (op := .Pow) (opF_ok (T.fa 44 rfl)) ⟨ok_Lot_pow T, hr.mono (by decide), tk⟩ (by kernel_rfl) (by kernel_rfl) (pv 0) pe_int))) pss_nil)
    (pss_cons (ps_if (pt_cmpR op_eq (pv 1) pe_int (nomark _)) (pss_one (ps_ret (pe_binN (op := .Pow) (opF_ok (T.fa 44 rfl)) ⟨ok_Lot_pow T, hr.mono (by decide), tk⟩ (by kernel_rfl) (by kernel_rfl) (pv 0) pe_int))) pss_nil)
    (pss_cons (ps_if (pt_cmpR op_eq (pv 1) pe_int (nomark _)) (pss_one (ps_ret (pe_binN (op := .Pow) (opF_ok (T.fa 44 rfl)) ⟨ok_Lot_pow T, hr.mono (by decide), tk⟩ (by kernel_rfl) (by kernel_rfl) (pv 0) pe_int))) pss_nil)
    (pss_cons (ps_if (pt_cmpR op_eq (pv 1) pe_int (nomark _)) (pss_one (ps_ret (pe_binN (op := .Pow) (opF_ok (T.fa 44 rfl)) ⟨ok_Lot_pow T, hr.mono (by decide), tk⟩ (by kernel_rfl) (by kernel_rfl) (pv 0) pe_int))) pss_nil)
    (pss_cons (ps_if (pt_cmpR op_eq (pv 1) pe_int (nomark _)) (pss_one (ps_ret (pe_binN (op := .Pow) (opF_ok (T.fa 44 rfl)) ⟨ok_Lot_pow T, hr.mono (by decide), tk⟩ (by kernel_rfl) (by kernel_rfl) (pv 0) pe_int))) pss_nil)
    (pss_cons (ps_if (pt_cmpR op_eq (pv 1) pe_int (nomark _)) (pss_one (ps_ret (pe_binN (op := .Pow) (opF_ok (T.fa 44 rfl)) ⟨ok_Lot_pow T, hr.mono (by decide), tk⟩ (by kernel_rfl) (by kernel_rfl) (pv 0) pe_int))) pss_nil)
    (pss_one (ps_ret (pe_binN (op := .Pow) (opF_ok (T.fa 44 rfl)) ⟨ok_Lot_pow T, hr.mono (by decide), tk⟩ (by kernel_rfl) (by kernel_rfl) (pv 0) pe_int))))))))))))))))))))))))
    (pure_l_copies_to_64 (T_kf T))
theorem ok_l_copies (T : TT w K mg base) : OkF Pg w K mg base 10 (He.ga K "_law_copies") (sp_l_copies K) :=
  okf_of (d := d_l_copies) (t := fun E => t_l_copies K E) (T.df 24 rfl) sc_l_copies (fun _ _ _ _ h => by obtain ⟨_, _, _, _, rfl, _⟩ := h; rfl)
    (fun _ _ _ _ _ _ us hl => match us, hl with | [_, _], _ => rfl) (fun cdv A outer s H E nd tk hr =>
    (pss_cons (ps_if (pt_cmpR op_lt (pv 1) pe_int (nomark _)) (pss_one (ps_ret (pe_c1 ⟨ok_l_copies_to_21 T, hr.mono (by decide), tk⟩ (T.glo "_law_copies_to_21" (T.fa 45 rfl)) (He.keep_ok (x := "_law_copies_to_21") (T.fa 46 rfl)) rfl (pa_cons (pv 0) (pa_cons (pv 1) pa_nil))))) pss_nil)
    (pss_cons (ps_if (pt_cmpR op_lt (pv 1) pe_int (nomark _)) (pss_one (ps_ret (pe_c1 ⟨ok_l_copies_to_43 T, hr.mono (by decide), tk⟩ (T.glo "_law_copies_to_43" (T.fa 47 rfl)) (He.keep_ok (x := "_law_copies_to_43") (T.fa 48 rfl)) rfl (pa_cons (pv 0) (pa_cons (pv 1) pa_nil))))) pss_nil)
    (pss_one (ps_ret (pe_c1 ⟨ok_l_copies_to_64 T, hr.mono (by decide), tk⟩ (T.glo "_law_copies_to_64" (T.fa 49 rfl)) (He.keep_ok (x := "_law_copies_to_64") (T.fa 50 rfl)) rfl (pa_cons (pv 0) (pa_cons (pv 1) pa_nil))))))))
    (pure_l_copies (T_kf T))
theorem ok_l_done (T : TT w K mg base) : OkF Pg w K mg base 12 (He.ga K "_law_done") (sp_l_done K) :=
  okf_of (d := d_l_done) (t := fun E => t_l_done K E) (T.df 25 rfl) sc_l_done (fun _ _ _ _ h => by obtain ⟨_, _, _, _, rfl, _⟩ := h; rfl)
    (fun _ _ _ _ _ _ us hl => match us, hl with | [_, _, _], _ => rfl) (fun cdv A outer s H E nd tk hr =>
    (pss_cons (ps_if (pt_cmpR op_eq (pv 2) pe_int (nomark _)) (pss_one (ps_ret (pe_alt (pe_binN (op := .Mult) (opF_ok (T.fa 20 rfl)) ⟨ok_Lot_mul T, hr.mono (by decide), tk⟩ (by kernel_rfl) (by kernel_rfl) (pv 0) (pv 1)) (pe_refI (opF_ok (T.fa 20 rfl)) (fnd1 (T.fa 51 rfl)) (fnd2 (T.fa 51 rfl)) (of_decide_eq_true (T.fa 52 rfl)) ⟨ok_Lot_rmul T, hr.mono (by decide), tk⟩ (pv 0) (pv 1))))) pss_nil)
    (pss_cons (ps_if (pt_cmpR op_eq (pv 2) pe_int (nomark _)) (pss_one (ps_ret (pe_binI (op := .Add) (opF_ok (T.fa 53 rfl)) ⟨ok_Lot_add T, hr.mono (by decide), tk⟩ (pv 0) (pv 1)))) pss_nil)
    (pss_cons (ps_if (pt_cmpR op_eq (pv 2) pe_int (nomark _)) (pss_one (ps_ret (pe_binN (op := .Mod) (opF_ok (T.fa 54 rfl)) ⟨ok_Lot_mod T, hr.mono (by decide), tk⟩ (by kernel_rfl) (by kernel_rfl) (pv 0) (pv 1)))) pss_nil)
    (pss_one (ps_ret (pe_c1 ⟨ok_l_copies T, hr.mono (by decide), tk⟩ (T.glo "_law_copies" (T.fa 55 rfl)) (He.keep_ok (x := "_law_copies") (T.fa 56 rfl)) rfl (pa_cons (pv 0) (pa_cons (pv 1) pa_nil)))))))))
    (pure_l_done (T_kf T))
theorem ok_l_told (T : TT w K mg base) : OkF Pg w K mg base 14 (He.ga K "_law_told") (sp_l_told K) :=
  okf_of (d := d_l_told) (t := fun E => t_l_told K E) (T.df 26 rfl) sc_l_told (fun _ _ _ _ h => by obtain ⟨_, _, _, _, rfl, _⟩ := h; rfl)
    (fun _ _ _ _ _ _ us hl => match us, hl with | [_, _, _], _ => rfl) (fun cdv A outer s H E nd tk hr =>
    (pss_cons (ps_set (i := 3) nd rfl (.inl rfl) pe_non)
    (pss_cons (ps_tryH (tb := fun W => (tAsg (tC1 (sp_l_done K) W (tCons (tVar 0) (tCons (tVar 1) (tCons (tVar 2) tNil)))) (gName 3))) rfl rfl nd tk (fun W pn xe tkT pO => (pss_one (ps_set (i := 3) nd rfl (.inl rfl) (pe_c1 ⟨ok_l_done T, hr.mono (by decide), tkT⟩ (T.glo "_law_done" (T.fa 57 rfl)) (He.keep_ok (x := "_law_done") (T.fa 58 rfl)) rfl (pa_cons (pv 0) (pa_cons (pv 1) (pa_cons (pv 2) pa_nil))))))) (HsOk.cons (o := (some 4)) (ts := fun a cls d => (tAsg (tTup (tCons (tC (.str "Meets")) (tCons (tXf a cls d (He.ga K "Meets") "hour" (tVar 4)) tNil))) (gName 3))) ⟨rfl, by decide, .inl (T.glo "Meets" (T.fa 59 rfl))⟩ ⟨rfl, rfl⟩ (fun a oe cls d pn hz hf => (pss_one (ps_set (i := 3) nd rfl (.inl rfl) (pe_tup (pa_cons pe_str (pa_cons (pe_xf (C := He.ga K "Meets") (xfB_ok (T.fa 60 rfl)) (He.noat_ok (x := "Meets") (f := "hour") (T.fa 61 rfl)) hz hf (pv 4)) pa_nil)))))) (HsOk.cons (o := none) (ts := fun a cls d => (tAsg (tTup (tCons (tC (.str "OtherHours")) tNil)) (gName 3))) ⟨rfl, by decide, .inl (T.glo "OtherHours" (T.fa 3 rfl))⟩ trivial (fun a oe cls d pn hz hf => (pss_one (ps_set (i := 3) nd rfl (.inl rfl) (pe_tup (pa_cons pe_str pa_nil))))) (HsOk.cons (o := (some 4)) (ts := fun a cls d => (tAsg (tTup (tCons (tC (.str "NotADivisor")) (tCons (tXf a cls d (He.ga K "NotADivisor") "number" (tVar 4)) tNil))) (gName 3))) ⟨rfl, by decide, .inl (T.glo "NotADivisor" (T.fa 62 rfl))⟩ ⟨rfl, rfl⟩ (fun a oe cls d pn hz hf => (pss_one (ps_set (i := 3) nd rfl (.inl rfl) (pe_tup (pa_cons pe_str (pa_cons (pe_xf (C := He.ga K "NotADivisor") (xfB_ok (T.fa 63 rfl)) (He.noat_ok (x := "NotADivisor") (f := "number") (T.fa 64 rfl)) hz hf (pv 4)) pa_nil)))))) (HsOk.cons (o := (some 4)) (ts := fun a cls d => (tAsg (tTup (tCons (tC (.str "BadNumber")) (tCons (tXf a cls d (He.ga K "BadNumber") "name" (tVar 4)) (tCons (tXf a cls d (He.ga K "BadNumber") "value" (tVar 4)) tNil)))) (gName 3))) ⟨rfl, by decide, .inl (T.glo "BadNumber" (T.fa 65 rfl))⟩ ⟨rfl, rfl⟩ (fun a oe cls d pn hz hf => (pss_one (ps_set (i := 3) nd rfl (.inl rfl) (pe_tup (pa_cons pe_str (pa_cons (pe_xf (C := He.ga K "BadNumber") (xfB_ok (T.fa 66 rfl)) (He.noat_ok (x := "BadNumber") (f := "name") (T.fa 67 rfl)) hz hf (pv 4)) (pa_cons (pe_xf (C := He.ga K "BadNumber") (xfB_ok (T.fa 66 rfl)) (He.noat_ok (x := "BadNumber") (f := "value") (T.fa 68 rfl)) hz hf (pv 4)) pa_nil))))))) .nil)))))
    (pss_one (ps_ret (pv 3))))))
    (pure_l_told (T_kf T))
theorem ok_l_kinds (T : TT w K mg base) : OkF Pg w K mg base 14 (He.ga K "_law_kinds") (sp_l_kinds K) :=
  okf_of (d := d_l_kinds) (t := fun E => t_l_kinds K E) (T.df 27 rfl) sc_l_kinds (fun _ _ _ _ h => by obtain ⟨_, _, _, _, rfl, _⟩ := h; rfl)
    (fun _ _ _ _ _ _ us hl => match us, hl with | [_, _, _], _ => rfl) (fun cdv A outer s H E nd tk hr =>
    (pss_cons (ps_set (i := 3) nd rfl (.inl rfl) (pe_lst pa_nil))
    (pss_cons (ps_tryH (tb := fun W => (tDrop (tC1 (sp_l_done K) W (tCons (tVar 0) (tCons (tVar 1) (tCons (tVar 2) tNil)))))) rfl rfl nd tk (fun W pn xe tkT pO => (pss_one (ps_expr (pe_c1 ⟨ok_l_done T, hr.mono (by decide), tkT⟩ (T.glo "_law_done" (T.fa 57 rfl)) (He.keep_ok (x := "_law_done") (T.fa 58 rfl)) rfl (pa_cons (pv 0) (pa_cons (pv 1) (pa_cons (pv 2) pa_nil))))))) (HsOk.cons (o := (some 4)) (ts := fun a cls d => (tSeq (tAsg (tLst (tCons (tCB (rIsXx K cls a d) (tCons (tVar 4) (tCons (tC (.ty "ValueError")) tNil))) (tCons (tCB (rIsXx K cls a d) (tCons (tVar 4) (tCons (tC (.ref (He.ga K "Meets"))) tNil))) (tCons (tCB (rIsXx K cls a d) (tCons (tVar 4) (tCons (tC (.ref (He.ga K "OtherHours"))) tNil))) (tCons (tCB (rIsXx K cls a d) (tCons (tVar 4) (tCons (tC (.ref (He.ga K "NotADivisor"))) tNil))) tNil))))) (gName 3))
  (tAsg (tOp rCat (tVar 3) (tLst (tCons (tCB (rIsXx K cls a d) (tCons (tVar 4) (tCons (tC (.ref (He.ga K "BadNumber"))) tNil))) (tCons (tCB (rIsXx K cls a d) (tCons (tVar 4) (tCons (tC (.ref (He.ga K "RepeatedHour"))) tNil))) tNil)))) (gName 3)))) ⟨rfl, by decide, .inl (T.glo "WatchError" (T.fa 69 rfl))⟩ ⟨rfl, rfl⟩ (fun a oe cls d pn hz hf => (pss_cons (ps_set (i := 3) nd rfl (.inl rfl) (pe_lst (pa_cons (pe_callB (call_isXx hz hf) rfl (T.free "isinstance" (T.fa 24 rfl)) (by kernel_rfl) (pa_cons (pv 4) (pa_cons (pe_bltn (v := .ty "ValueError") rfl (T.free "ValueError" (T.fa 70 rfl)) (by kernel_rfl) rfl) pa_nil))) (pa_cons (pe_callB (call_isXx hz hf) rfl (T.free "isinstance" (T.fa 24 rfl)) (by kernel_rfl) (pa_cons (pv 4) (pa_cons (pe_glob (v := .ref (He.ga K "Meets")) rfl (T.glo "Meets" (T.fa 59 rfl)) rfl) pa_nil))) (pa_cons (pe_callB (call_isXx hz hf) rfl (T.free "isinstance" (T.fa 24 rfl)) (by kernel_rfl) (pa_cons (pv 4) (pa_cons (pe_glob (v := .ref (He.ga K "OtherHours")) rfl (T.glo "OtherHours" (T.fa 3 rfl)) rfl) pa_nil))) (pa_cons (pe_callB (call_isXx hz hf) rfl (T.free "isinstance" (T.fa 24 rfl)) (by kernel_rfl) (pa_cons (pv 4) (pa_cons (pe_glob (v := .ref (He.ga K "NotADivisor")) rfl (T.glo "NotADivisor" (T.fa 62 rfl)) rfl) pa_nil))) pa_nil))))))
    (pss_one (ps_set (i := 3) nd rfl (.inl rfl) (pe_op op_cat (pv 3) (pe_lst (pa_cons (pe_callB (call_isXx hz hf) rfl (T.free "isinstance" (T.fa 24 rfl)) (by kernel_rfl) (pa_cons (pv 4) (pa_cons (pe_glob (v := .ref (He.ga K "BadNumber")) rfl (T.glo "BadNumber" (T.fa 65 rfl)) rfl) pa_nil))) (pa_cons (pe_callB (call_isXx hz hf) rfl (T.free "isinstance" (T.fa 24 rfl)) (by kernel_rfl) (pa_cons (pv 4) (pa_cons (pe_glob (v := .ref (He.ga K "RepeatedHour")) rfl (T.glo "RepeatedHour" (T.fa 71 rfl)) rfl) pa_nil))) pa_nil)))))))) .nil))
    (pss_one (ps_ret (pv 3))))))
    (pure_l_kinds (T_kf T))
theorem ok_l_is_lot (T : TT w K mg base) : OkF Pg w K mg base 7 (He.ga K "_law_is_lot") (sp_l_is_lot K) :=
  okf_of (d := d_l_is_lot) (t := fun E => t_l_is_lot K E) (T.df 28 rfl) sc_l_is_lot (fun _ _ _ _ h => by obtain ⟨_, _, _, _, rfl, _⟩ := h; rfl)
    (fun _ _ _ _ _ _ us hl => match us, hl with | [_, _, _], _ => rfl) (fun cdv A outer s H E nd tk hr =>
    (pss_cons (ps_if (PW.pt (pw_or (pt_not (pt_val (pe_callB call_isi rfl (T.free "isinstance" (T.fa 24 rfl)) (by kernel_rfl) (pa_cons (pv 0) (pa_cons (pe_glob (v := .ref (He.ga K "Lot")) rfl (T.glo "Lot" (T.fa 19 rfl)) rfl) pa_nil))))) (pw_or (pt_not (pt_val (pe_c1 ⟨ok_l_same_1 T, hr.mono (by decide), tk⟩ (T.glo "_law_same" (T.fa 30 rfl)) (He.keep_ok (x := "_law_same") (T.fa 31 rfl)) rfl (pa_cons (pe_fldI (He.cls_ok (x := "Lot") (T.fa 0 rfl)) (He.noat_ok (x := "Lot") (f := "hours") (T.fa 1 rfl)) (pv 0)) (pa_cons (pv 1) pa_nil))))) (pw_or1 (pt_not (pt_val (pe_c1 ⟨ok_l_same_1 T, hr.mono (by decide), tk⟩ (T.glo "_law_same" (T.fa 30 rfl)) (He.keep_ok (x := "_law_same") (T.fa 31 rfl)) rfl (pa_cons (pe_propI (He.cls_ok (x := "Lot") (T.fa 0 rfl)) (propB_ok (T.fa 72 rfl)) ⟨ok_Lot_members T, hr.mono (by decide)⟩ (pv 0)) (pa_cons (pv 2) pa_nil))))))))) (pss_one (ps_ret pe_bl)) pss_nil)
    (pss_one (ps_ret (pe_cmpR op_eq (pe_callB (call_lenI (fnd1 (T.fa 73 rfl)) (fnd2 (T.fa 73 rfl)) ⟨ok_Lot_len T, hr.mono (by decide)⟩) rfl (T.free "len" (T.fa 6 rfl)) boot_len (pa_cons (pv 0) pa_nil)) (pe_callB call_len_seq rfl (T.free "len" (T.fa 6 rfl)) boot_len (pa_cons (pv 2) pa_nil)) (nomark _))))))
    (pure_l_is_lot (T_kf T))
theorem ok_l_agrees (T : TT w K mg base) : OkF Pg w K mg base 16 (He.ga K "_law_agrees") (sp_l_agrees K) :=
  okf_of (d := d_l_agrees) (t := fun E => t_l_agrees K E) (T.df 29 rfl) sc_l_agrees (fun _ _ _ _ h => by obtain ⟨_, _, _, _, _, _, rfl, _⟩ := h; rfl)
    (fun _ _ _ _ _ _ us hl => match us, hl with | [_, _, _, _, _], _ => rfl) (fun cdv A outer s H E nd tk hr =>
    (pss_cons (ps_set (i := 5) nd rfl (.inl rfl) (pe_c1 ⟨ok_l_told T, hr.mono (by decide), tk⟩ (T.glo "_law_told" (T.fa 74 rfl)) (He.keep_ok (x := "_law_told") (T.fa 75 rfl)) rfl (pa_cons (pv 0) (pa_cons (pv 1) (pa_cons (pv 2) pa_nil)))))
    (pss_cons (ps_set (i := 6) nd rfl (.inl rfl) (pe_c1 ⟨ok_l_kinds T, hr.mono (by decide), tk⟩ (T.glo "_law_kinds" (T.fa 76 rfl)) (He.keep_ok (x := "_law_kinds") (T.fa 77 rfl)) rfl (pa_cons (pv 0) (pa_cons (pv 1) (pa_cons (pv 2) pa_nil)))))
    (pss_cons (ps_if (pt_val (pe_callB call_isi rfl (T.free "isinstance" (T.fa 24 rfl)) (by kernel_rfl) (pa_cons (pv 4) (pa_cons (pe_bltn (v := .ty "list") rfl (T.free "list" (T.fa 15 rfl)) (by kernel_rfl) rfl) pa_nil)))) (pss_one (ps_ret (pe_and (pe_cmpR (op_eqD hr.units) (pv 6) (pe_lst pa_nil) (nomark _)) (pe_one (pe_c1 ⟨ok_l_is_lot T, hr.mono (by decide), tk⟩ (T.glo "_law_is_lot" (T.fa 78 rfl)) (He.keep_ok (x := "_law_is_lot") (T.fa 79 rfl)) rfl (pa_cons (pv 5) (pa_cons (pv 3) (pa_cons (pv 4) pa_nil)))))))) pss_nil)
    (pss_cons (ps_setLc (i := 7) (own := [("word", 8)]) rfl nd rfl rfl (sw_true rfl rfl rfl (by kernel_rfl)) (pi_list (pe_lst (pa_cons pe_str (pa_cons pe_str (pa_cons pe_str (pa_cons pe_str pa_nil)))))) (blkOk_by (own := [("word", 8)]) (by kernel_rfl)) (fun _ _ _ _ _ => (pg_name (i := 8) nd rfl (.inl rfl))) (fun _ _ _ _ _ => pts_nil) (fun _ _ _ _ _ => (pe_cmpR op_eq (pe_ix ix_tup (pv 4) pe_int (fun _ _ => rfl)) (pv 8) (nomark _))))
    (pss_one (ps_ret (pe_and (pe_cmpR (op_eqD hr.units) (pv 6) (pe_op op_cat (pe_op op_cat (pe_lst (pa_cons pe_bl pa_nil)) (pv 7)) (pe_lst (pa_cons pe_bl pa_nil))) (nomark _)) (pe_one (pe_c1 ⟨ok_l_same_1 T, hr.mono (by decide), tk⟩ (T.glo "_law_same" (T.fa 30 rfl)) (He.keep_ok (x := "_law_same") (T.fa 31 rfl)) rfl (pa_cons (pv 5) (pa_cons (pv 4) pa_nil))))))))))))
    (pure_l_agrees (T_kf T))
theorem ok_l_once (T : TT w K mg base) : OkF Pg w K mg base 2 (He.ga K "_law_once") (sp_l_once K) :=
  okf_of (d := d_l_once) (t := fun E => t_l_once K E) (T.df 30 rfl) sc_l_once (fun _ _ _ _ h => by obtain ⟨_, _, _, rfl, _⟩ := h; rfl)
    (fun _ _ _ _ _ _ us hl => match us, hl with | [_, _], _ => rfl) (fun cdv A outer s H E nd tk hr =>
    (pss_cons (ps_set (i := 2) nd rfl (.inr rfl) (pe_op op_rep (pe_lst (pa_cons pe_int pa_nil)) (pv 1)))
    (pss_cons (ps_for (passes_of rfl) rfl (pi_list (pv 0)) (pg_name (i := 3) nd rfl (.inl rfl)) (pss_one (ps_asg (pe_op op_add (pe_ix ix_list (pv 2) (pv 3) (fun _ _ => rfl)) pe_int) (pg_sub (pv 2) (pv 3) set_list))))
    (pss_cons (ps_for (passes_of rfl) rfl (pi_range1 rfl (T.free "range" (T.fa 7 rfl)) (pa_cons (pv 1) pa_nil)) (pg_name (i := 4) nd rfl (.inl rfl)) (pss_one (ps_if (pt_cmpR op_gt (pe_ix ix_list (pv 2) (pv 4) (fun _ _ => rfl)) pe_int (nomark _)) (pss_one (ps_ret (pe_tup (pa_cons pe_str (pa_cons (pv 4) pa_nil))))) pss_nil)))
    (pss_one (ps_ret (pe_lc (own := [("h", 4)]) rfl nd (pi_range1 rfl (T.free "range" (T.fa 7 rfl)) (pa_cons (pv 1) pa_nil)) (blkOk_by (own := [("h", 4)]) (by kernel_rfl)) (fun _ _ _ _ _ => (pg_name (i := 4) nd rfl (.inl rfl))) (fun _ _ _ _ _ => pts_one (pt_cmpR op_eq (pe_ix ix_list (pv 2) (pv 4) (fun _ _ => rfl)) pe_int (nomark _))) (fun _ _ _ _ _ => (pv 4)))))))))
    (pure_l_once (T_kf T))
theorem ok_l_sums (T : TT w K mg base) : OkF Pg w K mg base 4 (He.ga K "_law_sums") (sp_l_sums K) :=
  okf_of (d := d_l_sums) (t := fun E => t_l_sums K E) (T.df 31 rfl) sc_l_sums (fun _ _ _ _ h => by obtain ⟨_, _, _, _, _, _, rfl, _⟩ := h; rfl)
    (fun _ _ _ _ _ _ us hl => match us, hl with | [_, _, _, _], _ => rfl) (fun cdv A outer s H E nd tk hr =>
    (pss_cons (ps_if (pt_cmpR op_ne (pv 2) (pv 3) (nomark _)) (pss_one (ps_ret (pe_tup (pa_cons pe_str pa_nil)))) pss_nil)
    (pss_cons (ps_set (i := 4) nd rfl (.inl rfl) (pe_lst pa_nil))
    (pss_cons (ps_for (passes_of rfl) rfl (pi_list (pv 0)) (pg_name (i := 5) nd rfl (.inr rfl)) (pss_one (ps_expr (pe_bm PySem.F.plainAttrs_list PySem.F.slot_list_extend PySem.F.type_list_extend mt_extend (pv 4) (pa_cons (pe_lc (own := [("two", 6)]) rfl nd (pi_list (pv 1)) (blkOk_by (own := [("two", 6)]) (by kernel_rfl)) (fun _ _ _ _ _ => (pg_name (i := 6) nd rfl (.inl rfl))) (fun _ _ _ _ _ => pts_nil) (fun _ _ _ _ _ => (pe_op op_modN (pe_callTy call_int1 rfl (T.free "int" (T.fa 4 rfl)) (by kernel_rfl) (pa_cons (pe_op op_add (pv 5) (pv 6)) pa_nil)) (pv 2)))) pa_nil)))))
    (pss_one (ps_ret (pe_c1 ⟨ok_l_once T, hr.mono (by decide), tk⟩ (T.glo "_law_once" (T.fa 80 rfl)) (He.keep_ok (x := "_law_once") (T.fa 81 rfl)) rfl (pa_cons (pv 4) (pa_cons (pv 2) pa_nil)))))))))
    (pure_l_sums (T_kf T))
theorem ok_l_products (T : TT w K mg base) : OkF Pg w K mg base 18 (He.ga K "_law_products") (sp_l_products K) :=
  okf_of (d := d_l_products) (t := fun E => t_l_products K E) (T.df 32 rfl) sc_l_products (fun _ _ _ _ h => by obtain ⟨_, _, _, _, _, rfl, _⟩ := h; rfl)
    (fun _ _ _ _ _ _ us hl => match us, hl with | [_, _, _, _], _ => rfl) (fun cdv A outer s H E nd tk hr =>
    (pss_cons (ps_set (i := 4) nd rfl (.inl rfl) (pe_c1 ⟨ok_l_once T, hr.mono (by decide), tk⟩ (T.glo "_law_once" (T.fa 80 rfl)) (He.keep_ok (x := "_law_once") (T.fa 81 rfl)) rfl (pa_cons (pe_lc (own := [("member", 5)]) rfl nd (pi_list (pv 1)) (blkOk_by (own := [("member", 5)]) (by kernel_rfl)) (fun _ _ _ _ _ => (pg_name (i := 5) nd rfl (.inl rfl))) (fun _ _ _ _ _ => pts_nil) (fun _ _ _ _ _ => (pe_op op_modN (pe_callTy call_int1 rfl (T.free "int" (T.fa 4 rfl)) (by kernel_rfl) (pa_cons (pe_op op_mulW (pv 5) (pv 3)) pa_nil)) (pv 2)))) (pa_cons (pv 2) pa_nil))))
    (pss_one (ps_ret (pe_and (pe_c1 ⟨ok_l_agrees T, hr.mono (by decide), tk⟩ (T.glo "_law_agrees" (T.fa 82 rfl)) (He.keep_ok (x := "_law_agrees") (T.fa 83 rfl)) rfl (pa_cons (pv 0) (pa_cons (pv 3) (pa_cons pe_int (pa_cons (pv 2) (pa_cons (pv 4) pa_nil)))))) (pe_one (pe_c1 ⟨ok_l_agrees T, hr.mono (by decide), tk⟩ (T.glo "_law_agrees" (T.fa 82 rfl)) (He.keep_ok (x := "_law_agrees") (T.fa 83 rfl)) rfl (pa_cons (pv 3) (pa_cons (pv 0) (pa_cons pe_int (pa_cons (pv 2) (pa_cons (pv 4) pa_nil))))))))))))
    (pure_l_products (T_kf T))
theorem ok_l_residues (T : TT w K mg base) : OkF Pg w K mg base 18 (He.ga K "_law_residues") (sp_l_residues K) :=
  okf_of (d := d_l_residues) (t := fun E => t_l_residues K E) (T.df 33 rfl) sc_l_residues (fun _ _ _ _ h => by obtain ⟨_, _, _, _, _, rfl, _⟩ := h; rfl)
    (fun _ _ _ _ _ _ us hl => match us, hl with | [_, _, _, _], _ => rfl) (fun cdv A outer s H E nd tk hr =>
    (pss_cons (ps_if (PW.pt (pw_or (pt_cmpR op_lt (pv 3) pe_int (nomark _)) (pw_or1 (pt_cmpR op_ne (pe_op op_modN (pe_callTy call_int1 rfl (T.free "int" (T.fa 4 rfl)) (by kernel_rfl) (pa_cons (pv 2) pa_nil)) (pv 3)) pe_int (nomark _))))) (pss_one (ps_ret (pe_c1 ⟨ok_l_agrees T, hr.mono (by decide), tk⟩ (T.glo "_law_agrees" (T.fa 82 rfl)) (He.keep_ok (x := "_law_agrees") (T.fa 83 rfl)) rfl (pa_cons (pv 0) (pa_cons (pv 3) (pa_cons pe_int (pa_cons (pv 2) (pa_cons (pe_tup (pa_cons pe_str (pa_cons (pv 3) pa_nil))) pa_nil)))))))) pss_nil)
    (pss_one (ps_ret (pe_c1 ⟨ok_l_agrees T, hr.mono (by decide), tk⟩ (T.glo "_law_agrees" (T.fa 82 rfl)) (He.keep_ok (x := "_law_agrees") (T.fa 83 rfl)) rfl (pa_cons (pv 0) (pa_cons (pv 3) (pa_cons pe_int (pa_cons (pv 3) (pa_cons (pe_c1 ⟨ok_l_once T, hr.mono (by decide), tk⟩ (T.glo "_law_once" (T.fa 80 rfl)) (He.keep_ok (x := "_law_once") (T.fa 81 rfl)) rfl (pa_cons (pe_lc (own := [("member", 4)]) rfl nd (pi_list (pv 1)) (blkOk_by (own := [("member", 4)]) (by kernel_rfl)) (fun _ _ _ _ _ => (pg_name (i := 4) nd rfl (.inl rfl))) (fun _ _ _ _ _ => pts_nil) (fun _ _ _ _ _ => (pe_op op_modN (pe_callTy call_int1 rfl (T.free "int" (T.fa 4 rfl)) (by kernel_rfl) (pa_cons (pv 4) pa_nil)) (pv 3)))) (pa_cons (pv 3) pa_nil))) pa_nil))))))))))
    (pure_l_residues (T_kf T))
theorem ok_l_copied (T : TT w K mg base) : OkF Pg w K mg base 18 (He.ga K "_law_copied") (sp_l_copied K) :=
  okf_of (d := d_l_copied) (t := fun E => t_l_copied K E) (T.df 34 rfl) sc_l_copied (fun _ _ _ _ h => by obtain ⟨_, _, _, _, _, rfl, _⟩ := h; rfl)
    (fun _ _ _ _ _ _ us hl => match us, hl with | [_, _, _, _], _ => rfl) (fun cdv A outer s H E nd tk hr =>
    (pss_cons (ps_if (pt_cmpR op_lt (pv 3) pe_int (nomark _)) (pss_one (ps_ret (pe_c1 ⟨ok_l_agrees T, hr.mono (by decide), tk⟩ (T.glo "_law_agrees" (T.fa 82 rfl)) (He.keep_ok (x := "_law_agrees") (T.fa 83 rfl)) rfl (pa_cons (pv 0) (pa_cons (pv 3) (pa_cons pe_int (pa_cons (pv 2) (pa_cons (pe_tup (pa_cons pe_str (pa_cons pe_str (pa_cons (pv 3) pa_nil)))) pa_nil)))))))) pss_nil)
    (pss_cons (ps_if (pt_cmpR op_gt (pe_op op_mulW (pv 2) (pv 3)) pe_int (nomark _)) (pss_one (ps_ret (pe_c1 ⟨ok_l_agrees T, hr.mono (by decide), tk⟩ (T.glo "_law_agrees" (T.fa 82 rfl)) (He.keep_ok (x := "_law_agrees") (T.fa 83 rfl)) rfl (pa_cons (pv 0) (pa_cons (pv 3) (pa_cons pe_int (pa_cons (pv 2) (pa_cons (pe_tup (pa_cons pe_str (pa_cons pe_str (pa_cons (pe_op op_mulW (pv 2) (pv 3)) pa_nil)))) pa_nil)))))))) pss_nil)
    (pss_cons (ps_set (i := 4) nd rfl (.inl rfl) (pe_lst pa_nil))
    (pss_cons (ps_for (passes_of rfl) rfl (pi_range1 rfl (T.free "range" (T.fa 7 rfl)) (pa_cons (pv 3) pa_nil)) (pg_name (i := 5) nd rfl (.inr rfl)) (pss_one (ps_set (i := 4) nd rfl (.inl rfl) (pe_op op_cat (pv 4) (pe_lc (own := [("member", 6)]) rfl nd (pi_list (pv 1)) (blkOk_by (own := [("member", 6)]) (by kernel_rfl)) (fun _ _ _ _ _ => (pg_name (i := 6) nd rfl (.inl rfl))) (fun _ _ _ _ _ => pts_nil) (fun _ _ _ _ _ => (pe_op op_add (pv 6) (pe_op op_mulW (pv 5) (pv 2)))))))))
    (pss_one (ps_ret (pe_c1 ⟨ok_l_agrees T, hr.mono (by decide), tk⟩ (T.glo "_law_agrees" (T.fa 82 rfl)) (He.keep_ok (x := "_law_agrees") (T.fa 83 rfl)) rfl (pa_cons (pv 0) (pa_cons (pv 3) (pa_cons pe_int (pa_cons (pe_op op_mulW (pv 2) (pv 3)) (pa_cons (pv 4) pa_nil)))))))))))))
    (pure_l_copied (T_kf T))
theorem law_at (T : TT w K mg base) {fd : FuncData} (F : FnX K d_law fd) : FnOk Pg w K mg base (L2.CX Pg w) 20 (He.ga K "law") fd ["script"] (sp_law K) :=
  okf_at (d := d_law) (t := fun E => t_law K E) F sc_law (fun _ _ _ _ h => by obtain ⟨_, _, rfl, _⟩ := h; rfl)
    (fun cdv A outer s H E nd tk hr =>
    (pss_cons (ps_set (i := 1) nd rfl (.inl rfl) (pe_c1 ⟨ok_l_draws T, hr.mono (by decide), tk⟩ (T.glo "_law_draws" (T.fa 32 rfl)) (He.keep_ok (x := "_law_draws") (T.fa 33 rfl)) rfl (pa_cons (pe_c1 ⟨ok_l_cell T, hr.mono (by decide), tk⟩ (T.glo "_law_cell" (T.fa 38 rfl)) (He.keep_ok (x := "_law_cell") (T.fa 39 rfl)) rfl (pa_cons (pv 0) (pa_cons pe_int pa_nil))) (pa_cons pe_int (pa_cons (pe_lst (pa_cons pe_int (pa_cons pe_int (pa_cons pe_int (pa_cons pe_int (pa_cons pe_int (pa_cons pe_int (pa_cons pe_int (pa_cons pe_int (pa_cons pe_int pa_nil)))))))))) pa_nil)))))
    (pss_cons (ps_set (i := 2) nd rfl (.inl rfl) (pe_ix ix_list (pe_lst (pa_cons (pe_op op_add pe_int (pe_ix ix_list (pv 1) pe_int (fun _ _ => rfl))) (pa_cons (pe_op op_add pe_int (pe_ix ix_list (pv 1) pe_int (fun _ _ => rfl))) (pa_cons (pe_op op_add pe_int (pe_ix ix_list (pv 1) pe_int (fun _ _ => rfl))) (pa_cons (pe_op op_add pe_int (pe_ix ix_list (pv 1) pe_int (fun _ _ => rfl))) pa_nil))))) (pe_callB (call_min2 rfl) rfl (T.free "min" (T.fa 84 rfl)) (by kernel_rfl) (pa_cons pe_int (pa_cons (pe_ix ix_list (pv 1) pe_int (fun _ _ => rfl)) pa_nil))) (fun _ _ => rfl)))
    (pss_cons (ps_set (i := 3) nd rfl (.inl rfl) (pv 2))
    (pss_cons (ps_if (pt_cmpR op_eq (pe_ix ix_list (pv 1) pe_int (fun _ _ => rfl)) pe_int (nomark _)) (pss_one (ps_set (i := 3) nd rfl (.inl rfl) (pe_op op_add (pe_op op_modN (pe_callTy call_int1 rfl (T.free "int" (T.fa 4 rfl)) (by kernel_rfl) (pa_cons (pv 2) pa_nil)) pe_int) pe_int))) pss_nil)
    (pss_cons (ps_set (i := 4) nd rfl (.inl rfl) (pe_c1 ⟨ok_l_drawn_lot T, hr.mono (by decide), tk⟩ (T.glo "_law_drawn_lot" (T.fa 85 rfl)) (He.keep_ok (x := "_law_drawn_lot") (T.fa 86 rfl)) rfl (pa_cons (pe_c1 ⟨ok_l_cell T, hr.mono (by decide), tk⟩ (T.glo "_law_cell" (T.fa 38 rfl)) (He.keep_ok (x := "_law_cell") (T.fa 39 rfl)) rfl (pa_cons (pv 0) (pa_cons pe_int pa_nil))) (pa_cons pe_int (pa_cons (pv 2) (pa_cons (pe_ix ix_list (pv 1) pe_int (fun _ _ => rfl)) pa_nil))))))
    (pss_cons (ps_set (i := 5) nd rfl (.inl rfl) (pe_c1 ⟨ok_l_drawn_lot T, hr.mono (by decide), tk⟩ (T.glo "_law_drawn_lot" (T.fa 85 rfl)) (He.keep_ok (x := "_law_drawn_lot") (T.fa 86 rfl)) rfl (pa_cons (pe_c1 ⟨ok_l_cell T, hr.mono (by decide), tk⟩ (T.glo "_law_cell" (T.fa 38 rfl)) (He.keep_ok (x := "_law_cell") (T.fa 39 rfl)) rfl (pa_cons (pv 0) (pa_cons pe_int pa_nil))) (pa_cons pe_int (pa_cons (pv 3) (pa_cons (pe_ix ix_list (pv 1) pe_int (fun _ _ => rfl)) pa_nil))))))
    (pss_cons (ps_set (i := 6) nd rfl (.inl rfl) (pe_c1 ⟨ok_l_divisors T, hr.mono (by decide), tk⟩ (T.glo "_law_divisors" (T.fa 42 rfl)) (He.keep_ok (x := "_law_divisors") (T.fa 43 rfl)) rfl (pa_cons (pv 2) pa_nil)))
    (pss_cons (ps_if (pt_cmpR op_eq (pe_ix ix_list (pv 1) pe_int (fun _ _ => rfl)) pe_int (nomark _)) (pss_cons (ps_set (i := 7) nd rfl (.inr rfl) (pe_ix ix_list (pv 6) (pe_op op_modN (pe_callTy call_int1 rfl (T.free "int" (T.fa 4 rfl)) (by kernel_rfl) (pa_cons (pe_ix ix_list (pv 1) pe_int (fun _ _ => rfl)) pa_nil)) (pe_callB call_len_seq rfl (T.free "len" (T.fa 6 rfl)) boot_len (pa_cons (pv 6) pa_nil))) (fun _ _ => rfl)))
    (pss_cons (ps_setLc (i := 4) (own := [("h", 12)]) rfl nd rfl rfl (sw_true rfl rfl rfl (by kernel_rfl)) (pi_list (pv 4)) (blkOk_by (own := [("h", 12)]) (by kernel_rfl)) (fun _ _ _ _ _ => (pg_name (i := 12) nd rfl (.inl rfl))) (fun _ _ _ _ _ => pts_one (pt_cmpR op_lt (pv 12) (pv 7) (nomark _))) (fun _ _ _ _ _ => (pv 12)))
    (pss_one (ps_setLc (i := 5) (own := [("h", 12)]) rfl nd rfl rfl (sw_true rfl rfl rfl (by kernel_rfl)) (pi_list (pv 5)) (blkOk_by (own := [("h", 12)]) (by kernel_rfl)) (fun _ _ _ _ _ => (pg_name (i := 12) nd rfl (.inl rfl))) (fun _ _ _ _ _ => pts_one (pt_cmpR op_eq (pe_op op_modN (pe_callTy call_int1 rfl (T.free "int" (T.fa 4 rfl)) (by kernel_rfl) (pa_cons (pv 12) pa_nil)) (pv 7)) pe_int (nomark _))) (fun _ _ _ _ _ => (pv 12)))))) pss_nil)
    (pss_cons (ps_asg (pe_c1 ⟨ok_l_numbers T, hr.mono (by decide), tk⟩ (T.glo "_law_numbers" (T.fa 87 rfl)) (He.keep_ok (x := "_law_numbers") (T.fa 88 rfl)) rfl (pa_cons (pv 0) (pa_cons (pv 2) pa_nil))) (pg_tup rfl (pgs_cons (pg_name (i := 8) nd rfl (.inl rfl)) (pgs_cons (pg_name (i := 7) nd rfl (.inr rfl)) (pgs_cons (pg_name (i := 9) nd rfl (.inl rfl)) pgs_nil)))))
    (pss_cons (ps_set (i := 10) nd rfl (.inl rfl) (pe_mk1 (He.mkr_ok (x := "Lot") (T.fa 18 rfl)) ⟨ok_Lot_init T, hr.mono (by decide), tk⟩ (hr.mono (by decide)) (T.glo "Lot" (T.fa 19 rfl)) rfl (pa_cons (pv 2) (pa_cons (pe_callTy call_list_of rfl (T.free "list" (T.fa 15 rfl)) (by kernel_rfl) (pa_cons (pv 4) pa_nil)) pa_nil))))
    (pss_cons (ps_set (i := 11) nd rfl (.inl rfl) (pe_mk1 (He.mkr_ok (x := "Lot") (T.fa 18 rfl)) ⟨ok_Lot_init T, hr.mono (by decide), tk⟩ (hr.mono (by decide)) (T.glo "Lot" (T.fa 19 rfl)) rfl (pa_cons (pv 3) (pa_cons (pe_callTy call_list_of rfl (T.free "list" (T.fa 15 rfl)) (by kernel_rfl) (pa_cons (pv 5) pa_nil)) pa_nil))))
    (pss_cons (ps_if (PW.pt (pw_or (pt_not (pt_val (pe_c1 ⟨ok_l_products T, hr.mono (by decide), tk⟩ (T.glo "_law_products" (T.fa 89 rfl)) (He.keep_ok (x := "_law_products") (T.fa 90 rfl)) rfl (pa_cons (pv 10) (pa_cons (pv 4) (pa_cons (pv 2) (pa_cons (pv 8) pa_nil))))))) (pw_or1 (pt_not (pt_val (pe_c1 ⟨ok_l_products T, hr.mono (by decide), tk⟩ (T.glo "_law_products" (T.fa 89 rfl)) (He.keep_ok (x := "_law_products") (T.fa 90 rfl)) rfl (pa_cons (pv 11) (pa_cons (pv 5) (pa_cons (pv 3) (pa_cons (pv 8) pa_nil)))))))))) (pss_one (ps_ret pe_bl)) pss_nil)
    (pss_cons (ps_if (pt_not (pt_val (pe_c1 ⟨ok_l_agrees T, hr.mono (by decide), tk⟩ (T.glo "_law_agrees" (T.fa 82 rfl)) (He.keep_ok (x := "_law_agrees") (T.fa 83 rfl)) rfl (pa_cons (pv 10) (pa_cons (pv 11) (pa_cons pe_int (pa_cons (pv 2) (pa_cons (pe_c1 ⟨ok_l_sums T, hr.mono (by decide), tk⟩ (T.glo "_law_sums" (T.fa 91 rfl)) (He.keep_ok (x := "_law_sums") (T.fa 92 rfl)) rfl (pa_cons (pv 4) (pa_cons (pv 5) (pa_cons (pv 2) (pa_cons (pv 3) pa_nil))))) pa_nil)))))))) (pss_one (ps_ret pe_bl)) pss_nil)
    (pss_cons (ps_if (pt_not (pt_val (pe_c1 ⟨ok_l_agrees T, hr.mono (by decide), tk⟩ (T.glo "_law_agrees" (T.fa 82 rfl)) (He.keep_ok (x := "_law_agrees") (T.fa 83 rfl)) rfl (pa_cons (pv 11) (pa_cons (pv 10) (pa_cons pe_int (pa_cons (pv 3) (pa_cons (pe_c1 ⟨ok_l_sums T, hr.mono (by decide), tk⟩ (T.glo "_law_sums" (T.fa 91 rfl)) (He.keep_ok (x := "_law_sums") (T.fa 92 rfl)) rfl (pa_cons (pv 5) (pa_cons (pv 4) (pa_cons (pv 3) (pa_cons (pv 2) pa_nil))))) pa_nil)))))))) (pss_one (ps_ret pe_bl)) pss_nil)
    (pss_cons (ps_if (PW.pt (pw_or (pt_not (pt_val (pe_c1 ⟨ok_l_residues T, hr.mono (by decide), tk⟩ (T.glo "_law_residues" (T.fa 93 rfl)) (He.keep_ok (x := "_law_residues") (T.fa 94 rfl)) rfl (pa_cons (pv 10) (pa_cons (pv 4) (pa_cons (pv 2) (pa_cons (pv 7) pa_nil))))))) (pw_or1 (pt_not (pt_val (pe_c1 ⟨ok_l_residues T, hr.mono (by decide), tk⟩ (T.glo "_law_residues" (T.fa 93 rfl)) (He.keep_ok (x := "_law_residues") (T.fa 94 rfl)) rfl (pa_cons (pv 11) (pa_cons (pv 5) (pa_cons (pv 3) (pa_cons (pv 7) pa_nil)))))))))) (pss_one (ps_ret pe_bl)) pss_nil)
    (pss_cons (ps_if (PW.pt (pw_or (pt_not (pt_val (pe_c1 ⟨ok_l_copied T, hr.mono (by decide), tk⟩ (T.glo "_law_copied" (T.fa 95 rfl)) (He.keep_ok (x := "_law_copied") (T.fa 96 rfl)) rfl (pa_cons (pv 10) (pa_cons (pv 4) (pa_cons (pv 2) (pa_cons (pv 9) pa_nil))))))) (pw_or1 (pt_not (pt_val (pe_c1 ⟨ok_l_copied T, hr.mono (by decide), tk⟩ (T.glo "_law_copied" (T.fa 95 rfl)) (He.keep_ok (x := "_law_copied") (T.fa 96 rfl)) rfl (pa_cons (pv 11) (pa_cons (pv 5) (pa_cons (pv 3) (pa_cons (pe_op op_modN (pe_callTy call_int1 rfl (T.free "int" (T.fa 4 rfl)) (by kernel_rfl) (pa_cons (pv 9) pa_nil)) pe_int) pa_nil)))))))))) (pss_one (ps_ret pe_bl)) pss_nil)
    (pss_one (ps_ret (pe_and (pe_c1 ⟨ok_l_is_lot T, hr.mono (by decide), tk⟩ (T.glo "_law_is_lot" (T.fa 78 rfl)) (He.keep_ok (x := "_law_is_lot") (T.fa 79 rfl)) rfl (pa_cons (pv 10) (pa_cons (pv 2) (pa_cons (pv 4) pa_nil)))) (pe_one (pe_c1 ⟨ok_l_is_lot T, hr.mono (by decide), tk⟩ (T.glo "_law_is_lot" (T.fa 78 rfl)) (He.keep_ok (x := "_law_is_lot") (T.fa 79 rfl)) rfl (pa_cons (pv 11) (pa_cons (pv 3) (pa_cons (pv 5) pa_nil)))))))))))))))))))))))))
    (pure_law (T_kf T))
end
end K02

set_option maxHeartbeats 0
namespace K02
open PySem PySem.Spec PyProof.Rows L2 Bw
abbrev R : PySem.W.OpenRow := PySem.W.OpenLaw.row PySem.Challenge.rw_beatswatched_k02_lot_products
abbrev fx (K : PySem.W.Frag) : Bool := fl.all fun f => f K
abbrev hk : PySem.W.Hook := hookX 6 fx fn
def ob (s : PySem.W.SharedT) : AlX := obsXG 6 fx fn (HandSHeadRun.getT s)
theorem ob_eq (s : PySem.W.SharedT) : ob s = hk.obs s.abs := obsXG_eq (HandSHeadRun.getT_eq s)
def names : List PySem.Str := (["_wall", "WatchError", "BadNumber", "RepeatedHour", "Meets", "OtherHours", "NotADivisor", "hours_checked", "rings_checked", "first_repeated", "each_once", "Lot"] : List PySem.Str) ++ ((["_law_cell", "_law_draws", "_law_is_int", "_law_same", "_law_digits", "_law_bits", "_law_subset", "_law_drawn_lot", "_law_divisors", "_law_numbers", "_law_copies_to_21", "_law_copies_to_43"] : List PySem.Str) ++ ((["_law_copies_to_64", "_law_copies", "_law_done", "_law_told", "_law_kinds", "_law_is_lot", "_law_agrees", "_law_once", "_law_sums", "_law_products", "_law_residues", "_law_copied"] : List PySem.Str)))
theorem run (w : World) : HandSHeadRun.RunEq R (PySem.W.view R.prog [40]) hk ob 4000 names w := by
  intro os
  kernel_rfl
theorem facts {w : World} {K : PySem.W.Frag} {h : Heap} {mg : PySem.Str → Option Value} {f : Addr} (X : K.In h) (G : h.Ns mainGlobals mg) (hfa : mg ("law" : PySem.Str) = some (.ref f)) (c : SaysX fx fn K) :
    ∃ fd : FuncData, (∀ (s : Shared) (v : Value), BindsTo s fd ⟨[v], []⟩ [("script", v)]) ∧ ∀ base : Heap, K.In base → base.Ns mainGlobals mg → FnOk Pg w K mg base CX0 20 f fd ["script"] (sp_law K) := by
  have Th : TT w K mg h := ⟨X, G, c⟩
  obtain ⟨fd, F⟩ := c.def_ 35 (d := d_law) rfl
  have e := hfa.symm.trans (Th.glo "law" (Th.fa 107 rfl))
  cases e
  have b := F.binds (ps := ["script"]) fun _ _ _ _ _ _ us hl => match us, hl with | [_], _ => rfl
  have hkin : ∀ s : Shared, ∀ v : Value, BindsTo s fd ⟨[v], []⟩ [("script", v)] := by
    obtain ⟨oc, od, kV, doc, pm, an, cdv, ct, osl, rfl, lk, hcd⟩ := F.ex
    exact fun s v => .of_eq rfl
  exact ⟨fd, hkin, fun base B1 B2 => fn0 (law_at (base := base) ⟨B1, B2, c⟩ F) fun vs H Q E h => h⟩
end K02
open PySem PySem.W PySem.Calls PyProof.Rows
theorem PySem.Challenge.cw_beatswatched_k02_lot_products_holds : PySem.Challenge.rw_beatswatched_k02_lot_products.Holds := by
  w_on; o_law
  refine HandSHeadRun.head_any (r := OpenLaw.row PySem.Challenge.rw_beatswatched_k02_lot_products) (q := view (OpenLaw.row PySem.Challenge.rw_beatswatched_k02_lot_products).prog [40]) (H := K02.hk) (ob := K02.ob) (M := 4000) (loose := K02.names) (d := HandSHeadRun.topDef (OpenLaw.row PySem.Challenge.rw_beatswatched_k02_lot_products).prog 40) (kwd := []) K02.ob_eq
    (by kernel_rfl) (fun s => by kernel_rfl) K02.run (by kernel_rfl) (by kernel_rfl) (by kernel_rfl) (by rfl) (by first | assumption | decide +kernel) (by decide +kernel) ⟨rfl, rfl, rfl, rfl, rfl, by decide +kernel⟩ ?hw ?hc
  case hw => w_witness2
  case hc =>
    refine L2.walk_ofE (l := PySem.Challenge.rw_beatswatched_k02_lot_products) (n := 63) (k := 20) (x := "script") (CX := L2.CX0) rfl (by decide) (by kernel_rfl) ⟨rfl, by decide, by decide⟩ ?F (fun _ _ _ _ z => z)
    intro w mg fa h Y G hmg0
    obtain ⟨K, KX, c⟩ := Y
    have hmg : mg ("law" : PySem.Str) = some (.ref fa) := by
      have e : (HandSHeadRun.topDef (OpenLaw.row PySem.Challenge.rw_beatswatched_k02_lot_products).prog 40).name = ("law" : PySem.Str) := by kernel_rfl
      rw [← e]
      exact hmg0
    obtain ⟨fd, hb, hF⟩ := K02.facts (w := w) KX G hmg c
    exact ⟨K, fd, Bw.sp_law K, KX, hb, fun H a ns hl _ hS => ⟨a, ns, rfl, hS, fun _ => rfl⟩, hF⟩
