import PyProof.Rows.All
import Wide.All
import OpenK.AllK
import Wide.FinOn
import HandS.Head2
import HandS.HeadEnd
import HandS.HeadHook2
import HandS.Words
import HandS.Defaults
import HandS.ForMost
import HandS.Exc
import HandS.ExcOwn
import HandS.TryMany
import HandS.TryOnly
import HandS.WordsExc
import HandS.Property
import HandS.IsInst
import HandS.Style
import HandS.IterVal
import HandS.Flow
import HandS.SortInts
import HandS.Strs
import HandS.Wide
import KE.KOpsOwn
import KE.KExcSuper
import HandS.ExcInit
import HandS.ExcField
import HandS.ExcIs
import HandS.Zip
import HandS.Iter
import KE.KOwnIter
import HandS.Conv
import PySem.Challenge.RW_beatswatched_k05_whole_differences
set_option Elab.async false
set_option linter.all false
set_option maxRecDepth 100000
set_option maxHeartbeats 4000000
namespace Bw
open PySem PySem.Spec PyProof.Rows L2
/-- a def told by where it stands -/
structure DX where
  pl : PySem.W.Frag → Addr
  nm : Str
  qn : Str
  st : Stmt
  cl : List Str := []
abbrev FnW : Type := Option (Str × Str × Arguments × FuncBody × Scope × Addr × List Str × Addr)
abbrev DX.val (d : DX) : FnW :=
  some (d.nm, d.qn, defArgs d.st, .stmts (defBody d.st), defScope d.st, mainGlobals, d.cl, builtinsNs)
/-- what the written part has at that place -/
def seenAt (K : PySem.W.Frag) (a : Addr) : FnW :=
  match K.lookup a with
  | some o => (match o.data with
    | .func fd => some (fd.name, fd.qualname, fd.params, fd.body, fd.scope, fd.globals, fd.closure.map (·.1), fd.builtins)
    | _ => none)
  | none => none
def codeOkAt (K : PySem.W.Frag) (a : Addr) (q : Str) : Bool :=
  PySem.W.keepIn K (.ref a) && (match K.lookup a with
    | some o => (match o.data with
      | .func fd => PySem.W.codeIn K fd.code q && (match fd.defaults with | .none => true | _ => false)
      | _ => false)
    | none => false)
/-- a def of no default, as it stands -/
abbrev FnX (K : PySem.W.Frag) (d : DX) (fd : FuncData) : Prop := Fun K d.nm d.qn d.st (d.pl K) fd
theorem funX {K : PySem.W.Frag} {d : DX} (hc : d.cl = []) (h1 : seenAt K (d.pl K) = d.val) (h2 : codeOkAt K (d.pl K) d.qn = true) : ∃ fd, FnX K d fd := by
  obtain ⟨kp, c⟩ := He.ba h2
  unfold seenAt at h1
  cases e : K.lookup (d.pl K) with
  | none => rw [e] at c; cases c
  | some o =>
    obtain ⟨oc, od, dt, osl⟩ := o
    rw [e] at c h1
    cases dt with
    | func fd =>
      obtain ⟨n1, n2, n3, n4, n5, n6, n7, n8, n9, n10, n11, n12, n13, n14, n15⟩ := fd
      simp only [DX.val, Option.some.injEq, Prod.mk.injEq] at h1
      obtain ⟨h1, h2, h3, h4, h5, h6, h7, h8⟩ := h1
      rw [hc] at h7
      have h7 := List.map_eq_nil_iff.mp h7
      subst h1 h2 h3 h4 h5 h6 h7 h8
      obtain ⟨k1, k2⟩ := He.ba c
      cases n8 with
      | none => exact ⟨_, ⟨oc, od, n9, n10, n11, n12, n13, n14, osl, rfl, e, k1⟩, kp⟩
      | _ => cases k2
    | _ => cases c
abbrev AlX : Type := Bool × List FnW
def obsX (fx : PySem.W.Frag → Bool) (fn : List DX) (K : PySem.W.Frag) : AlX :=
  (fx K && fn.all fun d => codeOkAt K (d.pl K) d.qn, fn.map fun d => seenAt K (d.pl K))
def valX (fn : List DX) : AlX := (true, fn.map DX.val)
def SaysX (fx : PySem.W.Frag → Bool) (fn : List DX) (K : PySem.W.Frag) : Prop := obsX fx fn K = valX fn
def obsXG (n : Nat) (fx : PySem.W.Frag → Bool) (fn : List DX) (g : Addr → Option Obj) : AlX := obsX fx fn (He.frG g (cStatics :: He.asD g n))
def hookX (n : Nat) (fx : PySem.W.Frag → Bool) (fn : List DX) : PySem.W.Hook where
  α := AlX
  obs s := obsXG n fx fn s.heap.get?
  val _ := valX fn
  says _ h := ∃ K : PySem.W.Frag, K.In h ∧ SaysX fx fn K
  of _ _ e := ⟨_, He.frG_in, e⟩
  keeps := fun _ _ _ q k => q.elim fun K c => ⟨K, PySem.W.Frag.In.keeps c.1 k, c.2⟩
theorem obsXG_eq {n : Nat} {fx : PySem.W.Frag → Bool} {fn : List DX} {g : Addr → Option Obj} {s : Shared}
    (h : ∀ a, g a = s.heap.get? a) : obsXG n fx fn g = (hookX n fx fn).obs s := by
  rw [show g = s.heap.get? from funext h] <;> rfl
section
variable {fx : PySem.W.Frag → Bool} {fn : List DX} {K : PySem.W.Frag}
theorem SaysX.facts (c : SaysX fx fn K) : fx K = true :=
  (He.ba (show (fx K && fn.all fun d => codeOkAt K (d.pl K) d.qn) = true from congrArg Prod.fst c)).1
theorem SaysX.seen (c : SaysX fx fn K) (i : Nat) {d : DX} (h : fn[i]? = some d) : seenAt K (d.pl K) = d.val ∧ codeOkAt K (d.pl K) d.qn = true := by
  have c2 := (He.ba (show (fx K && fn.all fun d => codeOkAt K (d.pl K) d.qn) = true from congrArg Prod.fst c)).2
  have e2 := congrArg (fun l : List FnW => l[i]?) (show (fn.map fun d => seenAt K (d.pl K)) = fn.map DX.val from congrArg Prod.snd c)
  simp only [List.getElem?_map, h, Option.map_some, Option.some.injEq] at e2
  exact ⟨e2, List.all_eq_true.mp c2 d (List.mem_of_getElem? h)⟩
theorem SaysX.def_ (c : SaysX fx fn K) (i : Nat) {d : DX} (h : fn[i]? = some d) (hc : d.cl = [] := by rfl) : ∃ fd, FnX K d fd := by
  obtain ⟨h1, h2⟩ := c.seen i h
  exact funX hc h1 h2
end
end Bw

namespace Bw
open PySem PySem.Spec PyProof.Rows L2
theorem not_ni {x : V} {u : Value} (r : RelV x u) : u ≠ .notImplemented := by
  intro e
  subst e
  cases x with
  | non => exact nomatch (show Value.notImplemented = Value.none from r)
  | bl b => exact nomatch (show Value.notImplemented = Value.bool b from r)
  | int i => obtain ⟨t, q⟩ := (show ∃ t, Value.notImplemented = Value.int i t from r); cases q
  | str i => obtain ⟨t, q⟩ := (show ∃ t, Value.notImplemented = Value.str i t from r); cases q
  | byt i => obtain ⟨t, q⟩ := (show ∃ t, Value.notImplemented = Value.bytes i t from r); cases q
  | flt i => obtain ⟨t, q⟩ := (show ∃ t, Value.notImplemented = Value.float i t from r); cases q
  | ref a => exact nomatch (show Value.notImplemented = Value.ref a from r)
  | ty n => exact nomatch (show Value.notImplemented = Value.type n from r)
theorem cmp_back {Q : Value → Shared → Prop} {u : Value} {s : Shared} (h : u ≠ .notImplemented) (q : Q u s) : PySem.W.CmpBack Q u s := by
  cases u <;> first | exact q | exact absurd rfl h
/-- what the written part says of an operator's method -/
structure OpF (K : PySem.W.Frag) (C : Addr) (nm : String) (f : Addr) : Prop where
  self : PySem.W.selfFirst K C = true
  at_ : PySem.W.findIn K (.ref C) (PySem.dunder nm) = some (some (.ref f))
  fn : PySem.W.isFn K (.ref f) = true
  rr : ∃ rc, PySem.W.findIn K (.ref C) (PySem.dunderR nm) = some rc ∧ (rc = none ∨ ∃ g : Addr, rc = some (.ref g))
  sub : PySem.W.subIn K (.type "int") (.ref C) = some false
def refO : Option (Option Value) → Bool
  | some none => true
  | some (some (.ref _)) => true
  | _ => false
def opFB (K : PySem.W.Frag) (C : Addr) (nm : String) : Bool :=
  PySem.W.selfFirst K C && (He.eqO (PySem.W.findIn K (.ref C) (PySem.dunder nm)) (some (some (.ref (He.ma K C (PySem.dunder nm))))) && (PySem.W.isFn K (.ref (He.ma K C (PySem.dunder nm))) &&
    (refO (PySem.W.findIn K (.ref C) (PySem.dunderR nm)) && decide (PySem.W.subIn K (.type "int") (.ref C) = some false))))
theorem opF_ok {K : PySem.W.Frag} {C : Addr} {nm : String} (h : opFB K C nm = true) : OpF K C nm (He.ma K C (PySem.dunder nm)) := by
  obtain ⟨h1, h⟩ := He.ba h
  obtain ⟨h2, h⟩ := He.ba h
  obtain ⟨h3, h⟩ := He.ba h
  obtain ⟨h4, h5⟩ := He.ba h
  refine ⟨h1, He.eqO_ok h2, h3, ?_, of_decide_eq_true h5⟩
  cases e : PySem.W.findIn K (.ref C) (PySem.dunderR nm) with
  | none => rw [e] at h4; cases h4
  | some r =>
    rw [e] at h4
    cases r with
    | none => exact ⟨_, rfl, .inl rfl⟩
    | some v =>
      cases v with
      | ref g => exact ⟨_, rfl, .inr ⟨g, rfl⟩⟩
      | _ => cases h4
/-- what a def's call asks: it stands, it has room, its arguments bind, what leaves it is wished -/
structure Call1 (X : Cx) (W : WX) (k : Nat) (f : Addr) (sp : Sp) : Prop where
  ex : ∃ (fd : FuncData) (ps : List Str), FnOk X.prog X.w X.K X.mg X.base (L2.CX X.prog X.w) k f fd ps sp ∧ Binds X.K fd ps []
  room : Room k X.A
  tk : Takes X W
section
variable {X : Cx} {W : WX} {k : Nat} {f g C : Addr} {sp : Sp} {a b o e : Expr} {es : List Expr} {ta tb : TE} {t : TA} {pos apos p : Pos} {pins : List (Addr × Obj)} {σ : L2.St} {H : Hp} {s : Shared} {Q : VK} {nm : String} {m x : Str}
theorem Call1.run (G : Call1 X W k f sp) {vs : List V} {us : List Value} (I : Inv X pins σ H s) (r : Vals vs us) (h : sp vs H Q (WE W σ)) :
    wpAny (model X.prog X.w) X.A (call (.ref f) us) (EP X pins σ Q) X.xe s := by
  obtain ⟨fd, ps, F, B⟩ := G.ex
  exact run_fnS (E := WE W) F G.room B (passAt G.tk σ) I r h
theorem Call1.back (G : Call1 X W k f sp) {vs : List V} {us : List Value} (I : Inv X pins σ H s) (r : Vals vs us) (h : sp vs H Q (WE W σ)) :
    wpAny (model X.prog X.w) X.A (call (.ref f) us) (PySem.W.CmpBack (EP X pins σ Q)) X.xe s :=
  wpAny_mono (G.run I r h) (fun u s' q => cmp_back (by obtain ⟨v, _, _, rv, _⟩ := q; exact not_ni rv) q) fun _ _ z => z
/-- f(e, ..) -/
def tC1 (sp : Sp) (W : WX) (t : TA) : TE := fun σ H Q => t σ H fun vs H1 => sp vs H1 Q (WE W σ)
theorem pe_c1 (G : Call1 X W k f sp) (hm : X.mg x = some (.ref f)) (hk : PySem.W.keepIn X.K (.ref f) = true) (hg : Gl X x) (ha : PA X (e :: es) t) (hdb : (x == ("__debug__" : Str)) = false := by decide)
    (he : starEach (e :: es) X.env = (false, eval e X.env) :: starEach es X.env := by rfl) (hpl : (backTo pos (starEach es X.env)).any (·.1) = false := by rfl) : PE X (.Call (.Name x p) (e :: es) [] pos) (tC1 sp W t) := by
  refine ⟨fun pins s σ H Q I h => ?_⟩
  refine wpAny_Call_Name_kw (ld_glob I hg hm ?_ hdb)
  refine PySem.W.callWith_K (h₀ := X.base) I.ok.mod.kin hk ?_ he hpl
  refine thn (ha.run pos pins s σ H _ I h) fun us s1 hh => ?_
  obtain ⟨vs, H1, I1, r, q⟩ := hh
  exact ⟨I1.kIn, G.run I1 r q⟩
/-- a op b, a an instance of the class at C with that operator; b of the class too -/
def tBinI (C : Addr) (sp : Sp) (W : WX) (ta tb : TE) : TE := fun σ H Q => ta σ H fun x H1 => tb σ H1 fun y H2 =>
  ∃ a dx fs b dy gs, x = .ref a ∧ H2 a = some (.ins C dx fs) ∧ y = .ref b ∧ H2 b = some (.ins C dy gs) ∧ sp [x, y] H2 Q (WE W σ)
/-- .. b an int -/
def tBinN (C : Addr) (sp : Sp) (W : WX) (ta tb : TE) : TE := fun σ H Q => ta σ H fun x H1 => tb σ H1 fun y H2 =>
  ∃ a dx fs i, x = .ref a ∧ H2 a = some (.ins C dx fs) ∧ y = .int i ∧ sp [x, y] H2 Q (WE W σ)
theorem inst_at (I : Inv X pins σ H s) {a dx : Addr} {fs : List (Str × V)} (h : H a = some (.ins C dx fs)) : ∃ od, PySem.W.InstAt s.heap a (PySem.W.instObj C dx) C (some od) := by
  obtain ⟨mA, J, _⟩ := ins_get I.hok h
  obtain ⟨od, J, _⟩ := J.look
  exact ⟨od, J⟩
theorem pe_binI {op : Operator} (O : OpF X.K C op.info.2 f) (G : Call1 X W k f sp) (ha : PE X a ta) (hb : PE X b tb) : PE X (.BinOp a op b pos) (tBinI C sp W ta tb) := by
  refine ⟨fun pins s σ H Q I h => ?_⟩
  refine wpAny_BinOp (binT ha hb I h fun v u s2 x y H2 I2 rx ry q => ?_)
  obtain ⟨a, dx, fs, b, dy, gs, rfl, h1, rfl, h2, q⟩ := q
  cases rx; cases ry
  obtain ⟨od, J⟩ := inst_at I2 h1
  obtain ⟨od', J'⟩ := inst_at I2 h2
  obtain ⟨m, hF⟩ := I2.fr
  exact PySem.W.binop_K hF I2.ok.mod.kin J J'.type O.self O.at_ O.fn (G.back (vs := [.ref a, .ref b]) I2 (.cons rfl (.cons rfl .nil)) q)
theorem pe_binN {op : Operator} (O : OpF X.K C op.info.2 f) (G : Call1 X W k f sp) (h1 : (fastLookup "int" (PySem.dunder op.info.2)).isSome = true) (h2 : (fastLookup "int" (PySem.dunderR op.info.2)).isSome = true)
    (ha : PE X a ta) (hb : PE X b tb) : PE X (.BinOp a op b pos) (tBinN C sp W ta tb) := by
  refine ⟨fun pins s σ H Q I h => ?_⟩
  refine wpAny_BinOp (binT ha hb I h fun v u s2 x y H2 I2 rx ry q => ?_)
  obtain ⟨a, dx, fs, i, rfl, h3, rfl, q⟩ := q
  cases rx
  obtain ⟨tk, rfl⟩ := (show ∃ t, u = Value.int i t from ry)
  obtain ⟨od, J⟩ := inst_at I2 h3
  obtain ⟨m, hF⟩ := I2.fr
  obtain ⟨rc, r1, r2⟩ := O.rr
  obtain ⟨fo, h1⟩ := Option.isSome_iff_exists.mp h1
  obtain ⟨ro, h2⟩ := Option.isSome_iff_exists.mp h2
  exact PySem.W.ksp_binT (T := "int") hF I2.ok.mod.kin J rfl O.self O.at_ O.fn r1 r2 h1 h2 O.sub (G.back (vs := [.ref a, .int i]) I2 (.cons rfl (.cons ⟨tk, rfl⟩ .nil)) q)
/-- -a, ~a -/
def tUnI (C : Addr) (sp : Sp) (W : WX) (ta : TE) : TE := fun σ H Q => ta σ H fun x H1 => ∃ a dx fs, x = .ref a ∧ H1 a = some (.ins C dx fs) ∧ sp [x] H1 Q (WE W σ)
theorem pe_negI (h1 : PySem.W.findIn X.K (.ref C) "__neg__" = some (some (.ref f))) (h2 : PySem.W.isFn X.K (.ref f) = true) (G : Call1 X W k f sp) (ha : PE X a ta) : PE X (.UnaryOp .USub a pos) (tUnI C sp W ta) := by
  refine ⟨fun pins s σ H Q I h => ?_⟩
  refine UnaryOp_ (thn (ha.run pins s σ H _ I h) fun v s1 hh => ?_)
  obtain ⟨x, H1, I1, r1, a, dx, fs, rfl, h3, q⟩ := hh
  cases r1
  obtain ⟨od, J⟩ := inst_at I1 h3
  obtain ⟨m, hF⟩ := I1.fr
  exact PySem.W.ksp_neg hF I1.ok.mod.kin J h1 h2 (G.run (vs := [.ref a]) I1 (.cons rfl .nil) q)
theorem pe_invI (h1 : PySem.W.findIn X.K (.ref C) "__invert__" = some (some (.ref f))) (h2 : PySem.W.isFn X.K (.ref f) = true) (G : Call1 X W k f sp) (ha : PE X a ta) : PE X (.UnaryOp .Invert a pos) (tUnI C sp W ta) := by
  refine ⟨fun pins s σ H Q I h => ?_⟩
  refine UnaryOp_ (thn (ha.run pins s σ H _ I h) fun v s1 hh => ?_)
  obtain ⟨x, H1, I1, r1, a, dx, fs, rfl, h3, q⟩ := hh
  cases r1
  obtain ⟨od, J⟩ := inst_at I1 h3
  obtain ⟨m, hF⟩ := I1.fr
  exact PySem.W.ksp_inv hF I1.ok.mod.kin J h1 h2 (G.run (vs := [.ref a]) I1 (.cons rfl .nil) q)
/-- o.m(..) -/
def tM1 (C : Addr) (m : Str) (sp : Sp) (W : WX) (ta : TE) (t : TA) : TE := fun σ H Q => ta σ H fun x H1 => ∃ a dx fs, x = .ref a ∧ H1 a = some (.ins C dx fs) ∧ fs.lookup m = none ∧ t σ H1 fun vs H2 => sp (.ref a :: vs) H2 Q (WE W σ)
theorem pe_m1 {pl : Sem Bool} (c : Cls X.K C) (hm : Meth X.K C m f) (G : Call1 X W k f sp) (he : PE X o ta) (ha : PA X (e :: es) t)
    (hst : starEach (e :: es) X.env = (false, eval e X.env) :: starEach es X.env := by rfl) (hpl : (backTo pos (starEach es X.env)).any (·.1) = false := by rfl)
    (ht : eval (.Call (.Attribute o m apos) (e :: es) [] pos) X.env = (do
      let ov ← eval o X.env
      standAt apos.atName
      let (f, first) ← holding [ov] (getMethod ov m pl)
      callWith pos f first (backTo pos (starEach (e :: es) X.env)) (backToKw pos (keywordEach [] X.env))) := by rfl) :
    PE X (.Call (.Attribute o m apos) (e :: es) [] pos) (tM1 C m sp W ta t) := by
  refine ⟨fun pins s σ H Q I h => ?_⟩
  refine PySem.W.methodCall_KW (pl := pl) (thn (he.run pins s σ H _ I h) fun u s1 hh => ?_) ht
  obtain ⟨x, H1, I1, rx, a, dx, fs, rfl, ea, l, q⟩ := hh
  obtain rfl : u = Value.ref a := rx
  refine getmeth_ok I1 ea c hm l ?_
  refine PySem.W.callWith_K (first := [.ref a]) (h₀ := X.base) I.ok.mod.kin hm.kp (thn (ha.run pos pins s1 σ H1 _ I1 q) fun us s2 hh => ?_) hst hpl
  obtain ⟨vs, H2, I2, r, q2⟩ := hh
  exact ⟨I2.kIn, G.run (vs := .ref a :: vs) I2 (.cons rfl r) q2⟩
theorem pe_m0 {pl : Sem Bool} (c : Cls X.K C) (hm : Meth X.K C m f) (G : Call1 X W k f sp) (he : PE X o ta)
    (ht : eval (.Call (.Attribute o m apos) [] [] pos) X.env = (do
      let ov ← eval o X.env
      standAt apos.atName
      let (f, first) ← holding [ov] (getMethod ov m pl)
      callWith pos f first (backTo pos (starEach [] X.env)) (backToKw pos (keywordEach [] X.env))) := by rfl) :
    PE X (.Call (.Attribute o m apos) [] [] pos) (tM1 C m sp W ta tNil) := by
  refine ⟨fun pins s σ H Q I h => ?_⟩
  refine PySem.W.methodCall_KW (pl := pl) (thn (he.run pins s σ H _ I h) fun u s1 hh => ?_) ht
  obtain ⟨x, H1, I1, rx, a, dx, fs, rfl, ea, l, q⟩ := hh
  obtain rfl : u = Value.ref a := rx
  refine getmeth_ok I1 ea c hm l ?_
  exact PySem.W.callWith_K0 (first := [.ref a]) I1.kIn hm.kp (G.run (vs := [.ref a]) I1 (.cons rfl .nil) q)
/-- C(e, ..) -/
def tMk1 (C : Addr) (sp : Sp) (W : WX) (t : TA) : TE := fun σ H Q => t σ H fun vs H1 => ∀ x dx, H1 x = none → H1 dx = none → dx ≠ x → sp (.ref x :: vs) (upd (upd H1 dx (.own x)) x (.ins C dx [])) (fun v H2 => v = .non ∧ Q (.ref x) H2) (WE W σ)
theorem Call1.make (M : Mk X.K C f) (G : Call1 X W k f sp) (hr : Room (k + 1) X.A) {vs : List V} {us : List Value} (I : Inv X pins σ H s) (r : Vals vs us)
    (h : ∀ x dx, H x = none → H dx = none → dx ≠ x → sp (.ref x :: vs) (upd (upd H dx (.own x)) x (.ins C dx [])) (fun v H2 => v = .non ∧ Q (.ref x) H2) (WE W σ)) :
    wpAny (model X.prog X.w) X.A (call (.ref C) us) (EP X pins σ Q) X.xe s := by
  obtain ⟨fd, ps, F, B⟩ := G.ex
  have h1 : H (s.heap.objs.size + 1) = none := I.hok.fresh (Nat.le_succ _)
  have h2 : H s.heap.objs.size = none := I.hok.fresh (Nat.le_refl _)
  have hq := h (s.heap.objs.size + 1) s.heap.objs.size h1 h2 (Nat.ne_of_lt (Nat.lt_succ_self _))
  have I2 := Inv.made (C := C) I
  have r2 : Vals (V.ref (s.heap.objs.size + 1) :: vs) (Value.ref (s.heap.objs.size + 1) :: us) := .cons rfl r
  have hl : (Value.ref (s.heap.objs.size + 1) :: us).length = ps.length := by
    rw [← r2.length]
    exact F.len _ _ _ _ hq
  have bb := B _ (Value.ref (s.heap.objs.size + 1) :: us) I2.kIn (by rw [List.append_nil]; exact hl)
  rw [List.append_nil] at bb
  refine wpAny_call (make_map (f := f) I.kIn M.makes M.init (beq_iff_eq.mp M.fn) (codeAny_mono (F.run _ X.stack _ _ ⟨Value.ref (s.heap.objs.size + 1) :: us, []⟩ _ _ _ _ (hr.make C us []) (I2.env0.make C us []) bb r2 hq) fun r s' hq' => ?_))
  cases r with
  | error e =>
    obtain ⟨a, B, H', cls, d, rfl, fl, hok, ub, na, os, ag, hE⟩ := hq'
    exact G.tk _ _ (XE.of_call I2 (W := W) (fun _ _ _ z => z) ⟨a, B, H', cls, d, rfl, fl, hok, ub, na, os, ag, hE⟩)
  | ok fl =>
    cases fl with
    | ret u =>
      obtain ⟨v, H', I3, rv, ev, q3⟩ := I2.after hq'
      subst ev
      exact ⟨rv, ⟨V.ref (s.heap.objs.size + 1), H', I3, rfl, q3⟩⟩
    | next => exact False.elim hq'
    | brk => exact False.elim hq'
    | cont => exact False.elim hq'
theorem pe_mk1 (M : Mk X.K C f) (G : Call1 X W k f sp) (hr : Room (k + 1) X.A) (hm : X.mg x = some (.ref C)) (hg : Gl X x) (ha : PA X (e :: es) t) (hdb : (x == ("__debug__" : Str)) = false := by decide)
    (he : starEach (e :: es) X.env = (false, eval e X.env) :: starEach es X.env := by rfl) (hpl : (backTo pos (starEach es X.env)).any (·.1) = false := by rfl) : PE X (.Call (.Name x p) (e :: es) [] pos) (tMk1 C sp W t) := by
  refine ⟨fun pins s σ H Q I h => ?_⟩
  refine wpAny_Call_Name_kw (ld_glob I hg hm ?_ hdb)
  refine PySem.W.callWith_K (h₀ := X.base) I.ok.mod.kin M.kp (thn (ha.run pos pins s σ H _ I h) fun us s1 hh => ?_) he hpl
  obtain ⟨vs, H1, I1, r, q⟩ := hh
  exact ⟨I1.kIn, Call1.make M G hr I1 r q⟩
end
end Bw

namespace BwM
open PySem PySem.W PySem.Calls PyProof.Rows PySem.HandSPX
/-! ### super().__init__(e) in an own error's __init__, at the machine's level -/
structure ExF (K : Frag) (C fI : Addr) : Prop where
  q : excInitIn K C He.veBase "ValueError.__new__" = true
  vE : ∃ cd, clsIn K C = some cd ∧ refsVE cd.mro = true ∧ cd.hasDict = true
  sa : findIn K (.ref C) "__setattr__" = some (some (.builtin "object.__setattr__"))
  iC : findIn K (.ref C) "__init__" = some (some (.ref fI))
  tI : typeIn K (.ref fI) = some (.type "function")
  sup : ks_superIn K C C "__init__" = some (some (.builtin "ValueError.__init__"))
  sVE : subIn K (.ref C) (.type "ValueError") = some true
  sC : mroIn K C (.ref C) = some true
  tp : nsIn K cStatics "thirdparty.any" = some none
structure ExT (K : Frag) (P : Program) (C fI : Addr) (nm qual : Str) (st : Stmt) (cda cc : Addr) : Prop where
  fn : ∃ (oc : Value) (od : Option Addr) (osl : Array (Option Value)) (kV doc pm : Value) (an : Option Addr) (ct : Value),
    K.lookup fI = some ⟨oc, od, .func (ksFn nm qual (L2.defArgs st) (L2.defBody st) (L2.defScope st) .none kV doc pm an (.ref cda) ct cc), osl⟩
  cd : codeIn K (.ref cda) qual = true
  file : ∃ (oc : Value) (od : Option Addr) (vs : Array Value) (osl : Array (Option Value)) (f : Str) (tf : Tok), K.lookup cda = some ⟨oc, od, .fields vs, osl⟩ ∧ vs[2]? = some (.str f tf) ∧ ((P.main.file : Str) == f) = true
  cell : ∃ (oc : Value) (od : Option Addr) (osl : Array (Option Value)), K.lookup cc = some ⟨oc, od, .cell (some (.ref C)), osl⟩
  top : (P.main.scope.names.lookup ("super" : Str)).isSome = false
/-- what of the module a def's name look asks -/
structure Glb (h : Heap) : Prop where
  g : ∃ mg, h.Ns mainGlobals mg ∧ mg "super" = none
  b : ∃ mb, h.Ns builtinsNs mb ∧ mb "super" = some (.type "super")
abbrev Kp (h h' : Heap) : Prop := ∀ b o, h.get? b = some o → h'.get? b = some o
theorem Glb.kp {h h' : Heap} (G : Glb h) (k : Kp h h') : Glb h' := by
  obtain ⟨⟨mg, g1, g2⟩, mb, b1, b2⟩ := G
  exact ⟨⟨mg, g1.keeps k, g2⟩, mb, b1.keeps k, b2⟩
section
variable {prog : Program} {w : World} {A : Around} {E : Value → Shared → Prop} {s : Shared} {K : Frag} {C fI cda cc x t0 L : Addr} {nm qual : Str} {st : Stmt} {body : List Stmt} {m : Str → Option Value} {ea : Expr} {p0 p1 p2 p3 p4 : Pos} {ar : Arg}
theorem sup_stmt {Q : Flow → Shared → Prop} (Fx : ExF K C fI) (T : ExT K prog C fI nm qual st cda cc) (X : K.In s.heap) (G : Glb s.heap) (hx : s.heap.get? x = some (excO C t0)) (hn : s.heap.Ns L m) (hm : m ar.arg = some (.ref x))
    (hp : ((L2.defArgs st).posonlyargs ++ (L2.defArgs st).args).head? = some ar) (hka : (L2.defScope st).names.lookup ar.arg = some .local) (hks : (L2.defScope st).names.lookup ("super" : Str) = some .globalImplicit) (hkc : (L2.defScope st).names.lookup ("__class__" : Str) = some .free)
    (hk : (L2.defScope st).kind = .function)
    (he : ∀ s1 : Shared, Kp s.heap s1.heap → ∀ Q' : Value → Shared → Prop, (∀ v tk, Q' v { s1 with toks := tk }) → wpAny (model prog w) A (eval ea (ksEnv qual (L2.defScope st) L fI (.ref cda) cc)) Q' E s1)
    (hst : starEach [ea] (ksEnv qual (L2.defScope st) L fI (.ref cda) cc) = [(false, eval ea (ksEnv qual (L2.defScope st) L fI (.ref cda) cc))])
    (hma : ∃ pl : Sem Bool, eval (.Call (.Attribute (.Call (.Name "super" p0) [] [] p1) "__init__" p2) [ea] [] p3) (ksEnv qual (L2.defScope st) L fI (.ref cda) cc) = (do
      let ov ← attributeBase (.Call (.Name "super" p0) [] [] p1) "__init__" (ksEnv qual (L2.defScope st) L fI (.ref cda) cc) (eval (.Call (.Name "super" p0) [] [] p1) (ksEnv qual (L2.defScope st) L fI (.ref cda) cc))
      standAt p2.atName
      let (f, first) ← holding [ov] (getMethod ov "__init__" pl)
      callWith p3 f first (backTo p3 (starEach [ea] (ksEnv qual (L2.defScope st) L fI (.ref cda) cc))) []))
    (hi : interactive (ksEnv qual (L2.defScope st) L fI (.ref cda) cc) = false)
    (hsw : swapsWith (.Call (.Attribute (.Call (.Name "super" p0) [] [] p1) "__init__" p2) [ea] [] p3) none p4.line (ksEnv qual (L2.defScope st) L fI (.ref cda) cc) = pure false)
    (hq : ∀ (h' : Heap) (tk : Nat) (t1 : Addr), (∀ b o, b ≠ x → s.heap.get? b = some o → h'.get? b = some o) → h'.get? x = some (excO C t1) → Q .next { s with heap := h', toks := tk }) :
    PySem.wpAt (model prog w) A (.func body (ksEnv qual (L2.defScope st) L fI (.ref cda) cc)) (exec (.Expr (.Call (.Attribute (.Call (.Name "super" p0) [] [] p1) "__init__" p2) [ea] [] p3) p4) (ksEnv qual (L2.defScope st) L fI (.ref cda) cc)) Q E s := by
  obtain ⟨oc, od, osl, kV, doc, pm, an, ct, lf⟩ := T.fn
  obtain ⟨oc2, od2, vs2, osl2, fl, tf, lc, v2, hfile⟩ := T.file
  obtain ⟨oc3, od3, osl3, lcell⟩ := T.cell
  obtain ⟨pl, hma⟩ := hma
  obtain ⟨cd, hcd, hmro, hdic⟩ := Fx.vE
  have hCo : ∃ oD, s.heap.get? C = some oD ∧ oD.data = .cls cd := by
    unfold clsIn at hcd
    split at hcd
    · rename_i ho
      cases hcd
      exact ⟨_, X _ _ ho, rfl⟩
    · cases hcd
  obtain ⟨oD, hD1, hD2⟩ := hCo
  have hxC : x ≠ C := by
    intro z
    rw [← z, hx] at hD1
    cases hD1
    cases hD2
  obtain ⟨⟨mg, hg1, hg2⟩, mb, hb1, hb2⟩ := G
  obtain ⟨hh, g, d, tk0, os⟩ := s
  refine ks_wpAt_Expr_any ?_ hi hsw
  refine ks_wpAt_MethodCall ?_ hma
  refine ks_wpAt_super_base (env := ksEnv qual (L2.defScope st) L fI (.ref cda) cc) hks hkc (by decide +kernel) rfl (X _ _ lf) rfl hp rfl (X _ _ lc) rfl v2 hfile T.top ?_
  refine ks_loadName_global hk hks (loadGlobal_builtin (env := ksEnv qual (L2.defScope st) L fI (.ref cda) cc) hg1 hg2 hb1 hb2 ⟨rfl, ?_⟩)
  refine wpAny_loadName_free hk hkc rfl ⟨_, X _ _ lcell, rfl⟩ ?_
  refine wpAny_loadName_local hk hka hn hm ?_
  refine ks_wpAny_isType_cls hD1 hD2 ⟨rfl, ?_⟩
  refine ks_wpAny_call_super hD1 hD2 hx rfl (fun c e => by cases e) (looks_mroIn X Fx.sC) (fun h1 so1 k1 => ?_)
  have X1 : K.In h1 := X.keeps k1
  have hx1 := k1 _ _ hx
  have I1 : InstAt h1 x (excO C t0) C none := ⟨hx1, rfl, rfl, trivial⟩
  have hin : Looks (model prog w) h1 (isInstance (.ref x) (.type "ValueError")) true := I1.type.andThen (looks_subIn X1 Fx.sVE)
  have hsup := Fx.sup
  unfold ks_superIn at hsup
  rw [hcd, Option.bind_some] at hsup
  refine kxs_getMethod kxs_ValueError so1 (looks_opaque X1 Fx.tp) (l₀ := cd.mro) ((looks_clsIn X1 hcd).andThen .now) rfl X1 hsup hin hxC (by decide +kernel) ?_
  have k2 : Kp h1 (h1.push (kxs_mw "ValueError.__init__" x)) := fun b o e => Heap.get?_push_of_some _ e
  have u2 : (h1.push (kxs_mw "ValueError.__init__" x)).get? h1.objs.size = some (kxs_mw "ValueError.__init__" x) := Heap.get?_push_at rfl rfl
  refine kxs_callWith (i := "ValueError.__init__") (x := x) (by rw [hst]; rfl) ?_
  rw [hst]
  refine evalArgs_plain (spliced_cons ?_)
  refine he _ (fun b o e => k2 b o (k1 b o e)) _ fun v tk => ?_
  refine spliced_nil ⟨u2, ?_⟩
  have hx2 := k2 _ _ hx1
  have X2 : K.In (h1.push (kxs_mw "ValueError.__init__" x)) := X1.keeps k2
  obtain ⟨nm', N', qn, bs, bm, hdct, sn, sub, ab, col, dd, c0, c1, c2, c3, c5, hC, hT⟩ := excInit_of X2 Fx.q
  refine wpAny_call (codeAny_of_tree ?_)
  show wpAny _ A.in1 (callAny (.ref h1.objs.size) ⟨_, []⟩) _ _ _
  simp only [callAny]
  refine wpAny_bind (wpAny_load u2 ?_)
  simp only [kxs_mw, show (Value.type "method-wrapper" == Value.type "method" || Value.type "method-wrapper" == Value.type "builtin_function_or_method" || Value.type "method-wrapper" == Value.type "method-wrapper") = true by decide, if_true]
  refine KFB.if_so (by decide) ?_
  refine wpAny_bind (check_bound_init F.excBase_ValueError.toExcCallFacts hC hx2 rfl ?_)
  refine wpAny_bind (wpAny_pure (wpAny_pure ?_))
  refine ⟨plainId_quiet F.excBase_ValueError.init.plain _, codeAny_builtin F.excBase_ValueError.initEntry ?_⟩
  refine exc_init_tree (cls := .ref C) (t0 := t0) (dv := none) (c2 := .none) (c3 := .none) (b4 := .bool false) hx2 (by show 1 ≤ sizeLine; decide) (fun h' k' e' t' => ?_)
  exact hq h' tk _ (fun b o hb e => k' b o hb (k2 b o (k1 b o e))) e'

/-- what __init__ leaves of a fresh exception at x: its dict, new, tells the fields -/
structure IniEnd (h h' : Heap) (x C dx : Addr) (mA : Str → Option Value) : Prop where
  keep : ∀ b o, b ≠ x → h.get? b = some o → h'.get? b = some o
  obj : ∃ t1 : Addr, h'.get? x = some { cls := .ref C, dict := some dx, data := .fields #[.ref t1, .none, .none, .none, .bool false, .none] }
  dbig : h.objs.size ≤ dx
  dne : dx ≠ x
  ns : h'.Ns1 dx mA
theorem name_l {M : Model} {name : Str} {scope : Scope} {cl : List (Str × Addr)} {a : Addr} {cd : Value} {y : Str} {pos : Pos} {v : Value} {Q : Value → Shared → Prop} (hn : s.heap.Ns L m) (hv : m y = some v) (h : Q v s)
    (hk : scope.kind = .function) (hl : scope.names.lookup y = some .local) (hd : (y == ("__debug__" : Str)) = false) : wpAny M A (eval (.Name y pos) (envX name scope L a cd cl)) Q E s := wpAny_Name (wpAny_loadName_local hk hl hn hv h) hd
/-- self.f = p, the first field -/
theorem asg_new {name : Str} {scope : Scope} {cl : List (Str × Addr)} {a : Addr} {cdv : Value} {f y : Str} {q1 q2 q3 q4 : Pos} {v : Value} {rest : List Stmt} {Q : Flow → Shared → Prop} (Fx : ExF K C fI) (X : K.In s.heap) (hx : s.heap.get? x = some (excO C t0))
    (hn : s.heap.Ns L m) (hm : m "self" = some (.ref x)) (hy : m y = some v) (hf : findIn K (.ref C) f = some none) (hk : scope.kind = .function) (hl : scope.names.lookup ("self" : Str) = some .local) (hl2 : scope.names.lookup y = some .local) (hd : (y == ("__debug__" : Str)) = false) (hxL : L ≠ x)
    (hsw : swapsWith (.Name y q3) (some (.Attribute (.Name "self" q1) f q2)) q4.line (envX name scope L a cdv cl) = pure false)
    (hq : ∀ h' tk dx, (∀ b o, b ≠ x → s.heap.get? b = some o → h'.get? b = some o) → s.heap.objs.size ≤ dx → dx ≠ x → h'.get? x = some { cls := .ref C, dict := some dx, data := .fields #[.ref t0, .none, .none, .none, .bool false, .none] } →
      h'.Ns1 dx (fun z => if z = f then some v else none) → wpAny (model prog w) A (execs rest (envX name scope L a cdv cl)) Q E { s with heap := h', toks := tk }) :
    wpAny (model prog w) A (execs (.Assign [.Attribute (.Name "self" q1) f q2] (.Name y q3) q4 :: rest) (envX name scope L a cdv cl)) Q E s := by
  obtain ⟨cd, hcd, hmro, hdic⟩ := Fx.vE
  refine wpAny_execs_cons (plainObj_wpAny_Assign_Attribute ?_ hsw)
  refine name_l (v := v) hn hy ?_ hk hl2 hd
  refine name_l (v := .ref x) hn hm ?_ hk hl (by decide +kernel)
  refine set_plain X (ox := excO C t0) (od := none) ⟨hx, rfl, rfl, trivial⟩ Fx.sa ?_
  refine exc_osa X hx hcd hmro hdic hf (fun h₃ tk₃ dx k₃ dn dne hx₃ hn₃ => ?_)
  exact hq h₃ tk₃ dx k₃ dn dne hx₃ hn₃
/-- a further field -/
theorem asg_old {name : Str} {scope : Scope} {cl : List (Str × Addr)} {a dx : Addr} {cdv : Value} {f y : Str} {q1 q2 q3 q4 : Pos} {v : Value} {rest : List Stmt} {Q : Flow → Shared → Prop} {mA : Str → Option Value} {nl : List Str} (Fx : ExF K C fI) (X : K.In s.heap) (hx : s.heap.get? x = some { cls := .ref C, dict := some dx, data := .fields #[.ref t0, .none, .none, .none, .bool false, .none] })
    (hA : s.heap.Ns1 dx mA) (hw : Within mA nl) (hz : nl.length ≤ 1000)
    (hn : s.heap.Ns L m) (hm : m "self" = some (.ref x)) (hy : m y = some v) (hf : findIn K (.ref C) f = some none) (hk : scope.kind = .function) (hl : scope.names.lookup ("self" : Str) = some .local) (hl2 : scope.names.lookup y = some .local) (hd : (y == ("__debug__" : Str)) = false)
    (hsw : swapsWith (.Name y q3) (some (.Attribute (.Name "self" q1) f q2)) q4.line (envX name scope L a cdv cl) = pure false)
    (hq : ∀ h' tk, (∀ b o, b ≠ dx → s.heap.get? b = some o → h'.get? b = some o) → h'.Ns1 dx (fun z => if z = f then some v else mA z) → wpAny (model prog w) A (execs rest (envX name scope L a cdv cl)) Q E { s with heap := h', toks := tk }) :
    wpAny (model prog w) A (execs (.Assign [.Attribute (.Name "self" q1) f q2] (.Name y q3) q4 :: rest) (envX name scope L a cdv cl)) Q E s := by
  obtain ⟨cd, hcd, hmro, hdic⟩ := Fx.vE
  obtain ⟨oD, _, _, hoD, _, _⟩ := hA.count hw
  refine wpAny_execs_cons (plainObj_wpAny_Assign_Attribute ?_ hsw)
  refine name_l (v := v) hn hy ?_ hk hl2 hd
  refine name_l (v := .ref x) hn hm ?_ hk hl (by decide +kernel)
  refine set_plain X (ox := { cls := .ref C, dict := some dx, data := .fields #[.ref t0, .none, .none, .none, .bool false, .none] }) (od := some oD) ⟨hx, rfl, rfl, hoD⟩ Fx.sa ?_
  exact PySem.OEX.osa_old X hx hA hw hz hcd hmro hdic hf (fun h₃ tk₃ k₃ hn₃ => hq h₃ tk₃ k₃ hn₃)

end
/-- what is looked at in the text of such an __init__ -/
structure TxtI (st : Stmt) (ps : List Str) : Prop where
  kS : (L2.defScope st).kind = .function
  co : (L2.defScope st).isCoroutine = false
  gn : (L2.defScope st).isGenerator = false
  nc : ((L2.defScope st).names.all fun z => match z.2 with | .cell => false | _ => true) = true
  ls : (L2.defScope st).names.lookup ("self" : Str) = some .local
  lc : (L2.defScope st).names.lookup ("__class__" : Str) = some .free
  lu : (L2.defScope st).names.lookup ("super" : Str) = some .globalImplicit
  hd : ∃ ar, ((L2.defArgs st).posonlyargs ++ (L2.defArgs st).args).head? = some ar ∧ ar.arg = "self"
  ia : ∀ (qual : Str) (L a c : Addr) (cd : Value), interactive (ksEnv qual (L2.defScope st) L a cd c) = false
  bind : ∀ (nm qual : Str) (kV doc pm : Value) (an : Option Addr) (cdv ct : Value) (cc : Addr) (us : List Value), us.length = ps.length + 1 →
    bindArgs (ksFn nm qual (L2.defArgs st) (L2.defBody st) (L2.defScope st) .none kV doc pm an cdv ct cc) ⟨us, []⟩ = pure (((("self" : Str) :: ps)).zip us)
structure Txt1 (st : Stmt) (y f : Str) : Prop where
  i : TxtI st [y]
  body : ∃ (tx : Str) (j : Nat) (pt p0 p1 p2 p3 p4 q1 q2 q3 q4 : Pos), L2.defBody st = [.Expr (.Call (.Attribute (.Call (.Name "super" p0) [] [] p1) "__init__" p2) [.Constant (.str tx) j pt] [] p3) p4, .Assign [.Attribute (.Name "self" q1) f q2] (.Name y q3) q4] ∧ ∀ (qual : Str) (L a c : Addr) (cd : Value), ∃ pl : Sem Bool, eval (.Call (.Attribute (.Call (.Name "super" p0) [] [] p1) "__init__" p2) [.Constant (.str tx) j pt] [] p3) (ksEnv qual (L2.defScope st) L a cd c) = (do
      let ov ← attributeBase (.Call (.Name "super" p0) [] [] p1) "__init__" (ksEnv qual (L2.defScope st) L a cd c) (eval (.Call (.Name "super" p0) [] [] p1) (ksEnv qual (L2.defScope st) L a cd c))
      standAt p2.atName
      let (f, first) ← holding [ov] (getMethod ov "__init__" pl)
      callWith p3 f first (backTo p3 (starEach [.Constant (.str tx) j pt] (ksEnv qual (L2.defScope st) L a cd c))) [])
  ly : (L2.defScope st).names.lookup y = some .local
  ne : (y == ("self" : Str)) = false ∧ (("self" : Str) == y) = false ∧ (y == ("__debug__" : Str)) = false
structure Txt2 (st : Stmt) (y f y2 f2 : Str) : Prop where
  i : TxtI st [y, y2]
  body : ∃ (tx : Str) (j : Nat) (pt p0 p1 p2 p3 p4 q1 q2 q3 q4 u1 u2 u3 u4 z1 z2 : Pos), L2.defBody st = [.Expr (.Call (.Attribute (.Call (.Name "super" p0) [] [] p1) "__init__" p2) [.BinOp (.Constant (.str tx) j pt) .Add (.Name y z1) z2] [] p3) p4, .Assign [.Attribute (.Name "self" q1) f q2] (.Name y q3) q4,
    .Assign [.Attribute (.Name "self" u1) f2 u2] (.Name y2 u3) u4] ∧ tx.length ≤ 1000 ∧ ∀ (qual : Str) (L a c : Addr) (cd : Value), ∃ pl : Sem Bool, eval (.Call (.Attribute (.Call (.Name "super" p0) [] [] p1) "__init__" p2) [.BinOp (.Constant (.str tx) j pt) .Add (.Name y z1) z2] [] p3) (ksEnv qual (L2.defScope st) L a cd c) = (do
      let ov ← attributeBase (.Call (.Name "super" p0) [] [] p1) "__init__" (ksEnv qual (L2.defScope st) L a cd c) (eval (.Call (.Name "super" p0) [] [] p1) (ksEnv qual (L2.defScope st) L a cd c))
      standAt p2.atName
      let (f, first) ← holding [ov] (getMethod ov "__init__" pl)
      callWith p3 f first (backTo p3 (starEach [.BinOp (.Constant (.str tx) j pt) .Add (.Name y z1) z2] (ksEnv qual (L2.defScope st) L a cd c))) [])
  ly : (L2.defScope st).names.lookup y = some .local
  ly2 : (L2.defScope st).names.lookup y2 = some .local
  ne : (y == ("self" : Str)) = false ∧ (("self" : Str) == y) = false ∧ (y == ("__debug__" : Str)) = false ∧ (y2 == ("self" : Str)) = false ∧ (("self" : Str) == y2) = false ∧ (y2 == ("__debug__" : Str)) = false ∧ (y == y2) = false ∧ (f == f2) = false
section
variable {prog : Program} {w : World} {A : Around} {R : Result → Shared → Prop} {s : Shared} {K : Frag} {C fI cda cc x t0 : Addr} {nm qual : Str} {st : Stmt} {y f y2 f2 : Str} {v v2 : Value}
theorem in_but {h h' : Heap} (X : K.In h) (hn : K.lookup x = none) (k : ∀ b o, b ≠ x → h.get? b = some o → h'.get? b = some o) : K.In h' := fun a o e =>
  k a o (fun z => by rw [z, hn] at e; cases e) (X a o e)
theorem ns_but {h h' : Heap} {L : Addr} {m : Str → Option Value} (n : h.Ns L m) (hL : L ≠ x) (k : ∀ b o, b ≠ x → h.get? b = some o → h'.get? b = some o) : h'.Ns L m := by
  obtain ⟨o, es, ep, ho, r⟩ := n
  exact ⟨o, es, ep, k L o hL ho, r⟩
/-- the call up to the body -/
theorem ini_call {ps : List Str} {vs : List Value} (T : ExT K prog C fI nm qual st cda cc) (S : TxtI st ps) (hl : vs.length = ps.length) (hlo : ∀ p ∈ ps, (L2.defScope st).names.lookup p = some .local) (X : K.In s.heap) (hlim : s.heap.NoLimit) (hroom : A.depth < recursionLimit)
    (h : ∀ h₀, h₀.Ns s.heap.objs.size (fun z => (((("self" : Str) :: ps)).zip (.ref x :: vs)).reverse.lookup z) → Kp s.heap h₀ → ∀ b tk,
      PySem.wpAt (model prog w) (A.deeper (ksEnv qual (L2.defScope st) s.heap.objs.size fI (.ref cda) cc)) (.func b (ksEnv qual (L2.defScope st) s.heap.objs.size fI (.ref cda) cc)) (execs (L2.defBody st) (ksEnv qual (L2.defScope st) s.heap.objs.size fI (.ref cda) cc))
      (fun f s' => R (.ok (.ret (match f with | .ret v => v | _ => .none))) s')
      (fun e s' => wpAny (model prog w) (A.deeper (ksEnv qual (L2.defScope st) s.heap.objs.size fI (.ref cda) cc)) (leaving (ksEnv qual (L2.defScope st) s.heap.objs.size fI (.ref cda) cc) e) (fun _ s'' => R (.error e) s'') (fun e' s'' => R (.error e') s'') s')
      { s with heap := h₀, toks := tk }) :
    codeAny (model prog w) A (.call (.ref fI) ⟨.ref x :: vs, []⟩) R s := by
  obtain ⟨oc, od, osl, kV, doc, pm, an, ct, lf⟩ := T.fn
  refine ks_codeAny_call_defAt (fd := ksFn nm qual (L2.defArgs st) (L2.defBody st) (L2.defScope st) .none kV doc pm an (.ref cda) ct cc) (body := L2.defBody st) (binds := ((("self" : Str) :: ps)).zip (.ref x :: vs)) hroom (X _ _ lf) rfl hlim (codeRec_of X T.cd) rfl
    (BindsTo.of_eq (S.bind _ _ _ _ _ _ _ _ _ _ (by rw [List.length_cons, hl]))) ?_ ?_ (fun h₀ hns hk => h h₀ hns hk _ _) S.co S.gn S.kS
  · intro z hz e
    have q := List.all_eq_true.mp S.nc z hz
    rw [e] at q
    cases q
  · intro z hz
    have e := List.of_mem_zip (show (z.1, z.2) ∈ _ from hz)
    rcases List.mem_cons.mp e.1 with e | e
    · rw [e]; exact S.ls
    · exact hlo _ e
theorem ini1 (Fx : ExF K C fI) (T : ExT K prog C fI nm qual st cda cc) (S : Txt1 st y f) (hf : findIn K (.ref C) f = some none) (X : K.In s.heap) (hlim : s.heap.NoLimit) (G : Glb s.heap) (hx : s.heap.get? x = some (excO C t0)) (hnx : K.lookup x = none) (hroom : A.depth < recursionLimit)
    (hq : ∀ h' tk dx, IniEnd s.heap h' x C dx (fun z => if z = f then some v else none) → R (.ok (.ret .none)) { s with heap := h', toks := tk }) :
    codeAny (model prog w) A (.call (.ref fI) ⟨[.ref x, v], []⟩) R s := by
  obtain ⟨tx, j, pt, p0, p1, p2, p3, p4, q1, q2, q3, q4, eb, hmc⟩ := S.body
  obtain ⟨n1, n2, n3⟩ := S.ne
  obtain ⟨ar, har, earn⟩ := S.i.hd
  have Lx : s.heap.objs.size ≠ x := Nat.ne_of_gt (Heap.lt_size hx)
  refine ini_call T S.i rfl (fun p hp => ?_) X hlim hroom (fun h₀ hns hk b tk => ?_)
  · rw [List.mem_singleton.mp hp]; exact S.ly
  have m1 : ((((("self" : Str) :: [y])).zip (.ref x :: [v])).reverse).lookup ("self" : Str) = some (Value.ref x) := by
    show List.lookup ("self" : Str) [(y, v), ("self", Value.ref x)] = _
    simp [List.lookup, n2]
  have m2 : ((((("self" : Str) :: [y])).zip (Value.ref x :: [v])).reverse).lookup y = some v := by
    show List.lookup y [(y, v), ("self", Value.ref x)] = _
    simp [List.lookup]
  rw [eb]
  refine ks_wpAt_execs_cons (sup_stmt (L := s.heap.objs.size) Fx T (X.keeps hk) (G.kp hk) (hk _ _ hx) hns (by rw [earn]; exact m1) har (by rw [earn]; exact S.i.ls) S.i.lu S.i.lc S.i.kS (fun s1 _ Q' q' => Constant_str (q' _ _)) rfl (hmc _ _ _ _ _) (S.i.ia _ _ _ _ _) rfl (fun h1 tk1 t1 k1 e1 => ?_))
  have kk : ∀ b o, b ≠ x → s.heap.get? b = some o → h1.get? b = some o := fun b o hb e => k1 b o hb (hk b o e)
  refine wpAt_of_wpAny (asg_new (s := { s with heap := h1, toks := tk1 }) Fx (in_but X hnx kk) e1 (ns_but hns Lx k1) m1 m2 hf S.i.kS S.i.ls S.ly n3 Lx rfl (fun h2 tk2 dx k2 db dn e2 ns2 => ?_))
  exact wpAny_execs_nil (hq h2 tk2 dx ⟨fun b o hb e => k2 b o hb (kk b o hb e), ⟨t1, e2⟩, Nat.le_trans (by
    obtain ⟨o, es, ep, ho, _⟩ := ns_but hns Lx k1
    exact Nat.le_of_lt (Heap.lt_size ho)) db, dn, ns2⟩)
theorem ini2 {z : Str} {tz : Tok} (Fx : ExF K C fI) (T : ExT K prog C fI nm qual st cda cc) (S : Txt2 st y f y2 f2) (hf : findIn K (.ref C) f = some none) (hf2 : findIn K (.ref C) f2 = some none) (X : K.In s.heap) (hlim : s.heap.NoLimit) (G : Glb s.heap) (hx : s.heap.get? x = some (excO C t0)) (hnx : K.lookup x = none) (hroom : A.depth < recursionLimit) (hz : z.length ≤ 1000)
    (hq : ∀ h' tk dx, IniEnd s.heap h' x C dx (fun q => if q = f2 then some v2 else if q = f then some (.str z tz) else none) → R (.ok (.ret .none)) { s with heap := h', toks := tk }) :
    codeAny (model prog w) A (.call (.ref fI) ⟨[.ref x, .str z tz, v2], []⟩) R s := by
  obtain ⟨tx, j, pt, p0, p1, p2, p3, p4, q1, q2, q3, q4, u1, u2, u3, u4, z1, z2, eb, htx, hmc⟩ := S.body
  obtain ⟨n1, n2, n3, n4, n5, n6, n7, n8⟩ := S.ne
  obtain ⟨ar, har, earn⟩ := S.i.hd
  have Lx : s.heap.objs.size ≠ x := Nat.ne_of_gt (Heap.lt_size hx)
  refine ini_call T S.i rfl (fun p hp => ?_) X hlim hroom (fun h₀ hns hk b tk => ?_)
  · rcases List.mem_cons.mp hp with e | hp
    · rw [e]; exact S.ly
    · rw [List.mem_singleton.mp hp]; exact S.ly2
  have m1 : ((((("self" : Str) :: [y, y2])).zip (.ref x :: [.str z tz, v2])).reverse).lookup ("self" : Str) = some (Value.ref x) := by
    show List.lookup ("self" : Str) [(y2, v2), (y, .str z tz), ("self", Value.ref x)] = _
    simp [List.lookup, n2, n5]
  have m2 : ((((("self" : Str) :: [y, y2])).zip (Value.ref x :: [.str z tz, v2])).reverse).lookup y = some (.str z tz) := by
    show List.lookup y [(y2, v2), (y, .str z tz), ("self", Value.ref x)] = _
    simp [List.lookup, n7]
  have m3 : ((((("self" : Str) :: [y, y2])).zip (Value.ref x :: [.str z tz, v2])).reverse).lookup y2 = some v2 := by
    show List.lookup y2 [(y2, v2), (y, .str z tz), ("self", Value.ref x)] = _
    simp [List.lookup]
  rw [eb]
  refine ks_wpAt_execs_cons (sup_stmt (L := s.heap.objs.size) Fx T (X.keeps hk) (G.kp hk) (hk _ _ hx) hns (by rw [earn]; exact m1) har (by rw [earn]; exact S.i.ls) S.i.lu S.i.lc S.i.kS (fun s1 kp1 Q' q' => ?_) rfl (hmc _ _ _ _ _) (S.i.ia _ _ _ _ _) rfl (fun h1 tk1 t1 k1 e1 => ?_))
  · refine wpAny_BinOp (Constant_str (name_l (v := .str z tz) (hns.keeps kp1) m2 ?_ S.i.kS S.ly n3))
    exact PyProof.Rows.add_str (fun t' tk => q' _ _) (by rw [sizeLine_eq]; omega)
  have kk : ∀ b o, b ≠ x → s.heap.get? b = some o → h1.get? b = some o := fun b o hb e => k1 b o hb (hk b o e)
  have n1' := ns_but hns Lx k1
  refine wpAt_of_wpAny (asg_new (s := { s with heap := h1, toks := tk1 }) Fx (in_but X hnx kk) e1 n1' m1 m2 hf S.i.kS S.i.ls S.ly n3 Lx rfl (fun h2 tk2 dx k2 db dn e2 ns2 => ?_))
  have kk2 : ∀ b o, b ≠ x → s.heap.get? b = some o → h2.get? b = some o := fun b o hb e => k2 b o hb (kk b o hb e)
  have Ldx : s.heap.objs.size ≠ dx := by
    obtain ⟨o, es, ep, ho, _⟩ := n1'
    exact Nat.ne_of_lt (Nat.lt_of_lt_of_le (Heap.lt_size ho) db)
  refine asg_old (s := { s with heap := h2, toks := tk2 }) (nl := [f]) Fx (in_but X hnx kk2) e2 ns2 ?_ (by show 1 ≤ 1000; decide) (ns_but n1' Lx k2) m1 m3 hf2 S.i.kS S.i.ls S.ly2 n6 rfl (fun h3 tk3 k3 ns3 => ?_)
  · intro q hq'
    by_cases e : q = f
    · rw [e]; exact List.mem_singleton.mpr rfl
    · exact absurd (if_neg e) hq'
  refine wpAny_execs_nil (hq h3 tk3 dx ⟨fun b o hb e => k3 b o (fun q => ?_) (kk2 b o hb e), ⟨t1, k3 _ _ (fun q => dn q.symm) e2⟩, Nat.le_trans (by
    obtain ⟨o, es, ep, ho, _⟩ := n1'
    exact Nat.le_of_lt (Heap.lt_size ho)) db, dn, ns3⟩)
  have := Heap.lt_size e
  rw [q] at this
  obtain ⟨o, es, ep, ho, _⟩ := n1'
  have h4 := Heap.lt_size ho
  exact absurd (Nat.lt_of_lt_of_le (Nat.lt_trans this h4) db) (Nat.lt_irrefl _)
end
end BwM
namespace BwM
open PySem PySem.W PySem.Calls PyProof.Rows PySem.HandSPX
/-- a made exception: at e, its dict at d tells mA -/
structure ExMade (h h' : Heap) (e C d : Addr) (mA : Str → Option Value) : Prop where
  keep : ∀ b o, h.get? b = some o → h'.get? b = some o
  new : h.objs.size ≤ e
  obj : ∃ oe vs, h'.get? e = some oe ∧ oe.cls = .ref C ∧ oe.dict = some d ∧ oe.data = .fields vs ∧ vs[1]? = some .none
  dbig : h.objs.size ≤ d
  dne : d ≠ e
  ns : h'.Ns1 d mA
section
variable {prog : Program} {w : World} {A : Around} {R : Result → Shared → Prop} {s : Shared} {K : Frag} {C fI : Addr}
theorem ex_made {vs : List Value} {mA : Str → Option Value} (Fx : ExF K C fI) (X : K.In s.heap) (hlim : s.heap.NoLimit) (G : Glb s.heap) (hl : vs.length ≤ sizeLine) (hroom : A.depth + 1 < recursionLimit)
    (hI : ∀ (A' : Around) (R' : Result → Shared → Prop) (s' : Shared) (x t0 : Addr), A'.depth < recursionLimit → K.In s'.heap → s'.heap.NoLimit → Glb s'.heap → s'.heap.get? x = some (excO C t0) → K.lookup x = none →
      (∀ h' tk dx, IniEnd s'.heap h' x C dx mA → R' (.ok (.ret .none)) { s' with heap := h', toks := tk }) → codeAny (model prog w) A' (.call (.ref fI) ⟨.ref x :: vs, []⟩) R' s')
    (hq : ∀ h' tk e d, ExMade s.heap h' e C d mA → R (.ok (.ret (.ref e))) { s with heap := h', toks := tk }) :
    codeAny (model prog w) A (.call (.ref C) ⟨vs, []⟩) R s := by
  obtain ⟨nm', N', qn, bs, bm, hdct, sn, sub, ab, col, dd, c0, c1, c2, c3, c5, hC, hT⟩ := excInit_of X Fx.q
  obtain ⟨hp, g, dr, tk, os⟩ := s
  have k : ∀ b o, hp.get? b = some o → ((hp.push (kdv_tup vs)).push (excO C hp.objs.size)).get? b = some o := fun b o e => Heap.get?_push_of_some _ (Heap.get?_push_of_some _ e)
  have hget : ((hp.push (kdv_tup vs)).push (excO C hp.objs.size)).get? (hp.objs.size + 1) = some (excO C hp.objs.size) := by heap_get
  have hnx : K.lookup (hp.objs.size + 1) = none := by
    cases e : K.lookup (hp.objs.size + 1) with
    | none => rfl
    | some o => exact absurd (Nat.lt_of_succ_lt (Heap.lt_size (show hp.get? (hp.objs.size + 1) = some o from X _ _ e))) (Nat.lt_irrefl _)
  refine call_own F.excBase_ValueError hT hC (looks_findIn X Fx.iC) (fun self => bind_fn X self Fx.tI) hl ?_
  refine hI _ _ ⟨(hp.push (kdv_tup vs)).push (excO C hp.objs.size), g, dr, tk, os⟩ (hp.objs.size + 1) hp.objs.size ?_ (X.keeps k) (hlim.keeps k) (G.kp k) hget hnx ?_
  · show A.depth + 1 < recursionLimit
    exact hroom
  · intro h' tk' dx I
    have old : ∀ b o, hp.get? b = some o → h'.get? b = some o := fun b o e => I.keep b o (Nat.ne_of_lt (Nat.lt_succ_of_lt (Heap.lt_size e))) (k b o e)
    obtain ⟨t1, ht1⟩ := I.obj
    have db := I.dbig
    have z : hp.objs.size + 1 + 1 ≤ dx := by
      rw [Heap.size_push, Heap.size_push] at db
      exact db
    exact ⟨rfl, hq h' tk' (hp.objs.size + 1) dx ⟨old, Nat.le_succ _, ⟨_, _, ht1, rfl, rfl, rfl, rfl⟩, Nat.le_trans (Nat.le_trans (Nat.le_succ _) (Nat.le_succ _)) z, I.dne, I.ns⟩⟩
end
end BwM
namespace Bw
open PySem PySem.Spec PyProof.Rows L2
section
variable {X : Cx} {P : Program} {w : World} {K : PySem.W.Frag} {mg : Str → Option Value} {C fI : Addr}
/-- the error's own dict: what its class tells of the arguments vs -/
structure ExK (P : Program) (w : World) (K : PySem.W.Frag) (mg : Str → Option Value) (C fI : Addr) (nm : Str) (ok : List V → Prop) (fs : List V → List (Str × V)) : Prop where
  ex : BwM.ExF K C fI
  sup : mg "super" = none
  exC : PySem.W.subIn K (.ref C) (.type "BaseException") = some true
  tyC : PySem.W.typeIn K (.ref C) = some (.type "type")
  kC : PySem.W.keepIn K (.ref C) = true
  gC : mg nm = some (.ref C)
  len : ∀ vs, ok vs → vs.length ≤ 1000
  run : ∀ (vs : List V) (us : List Value), ok vs → Vals vs us → ∃ mA : Str → Option Value, (∀ f, RelO ((fs vs).lookup f) (mA f)) ∧
    ∀ (A' : Around) (R' : Result → Shared → Prop) (s' : Shared) (x t0 : Addr), A'.depth < recursionLimit → K.In s'.heap → s'.heap.NoLimit → BwM.Glb s'.heap → s'.heap.get? x = some (PySem.HandSPX.excO C t0) → K.lookup x = none →
      (∀ h' tk dx, BwM.IniEnd s'.heap h' x C dx mA → R' (.ok (.ret .none)) { s' with heap := h', toks := tk }) → codeAny (model P w) A' (.call (.ref fI) ⟨.ref x :: us, []⟩) R' s'
theorem inv_glb {pins : List (Addr × Obj)} {σ : L2.St} {H : Hp} {s : Shared} (I : Inv X pins σ H s) (h : X.mg "super" = none) : BwM.Glb s.heap := by
  obtain ⟨mb, b1, b2⟩ := I.ok.mod.blt
  exact ⟨⟨X.mg, I.ok.mod.glob.keeps I.bk, h⟩, mb, b1.keeps I.bk, (b2 _ (by decide +kernel)).trans (by decide +kernel)⟩
/-- C(e, ..), to be raised -/
def tMkE (C : Addr) (ok : List V → Prop) (fs : List V → List (Str × V)) (ta : TA) : L2.St → Hp → XK → Prop := fun σ H Q => ta σ H fun vs H1 => ok vs ∧ ∀ d, H1 d = none → Q (.ref C) (some d) (upd H1 d (.xd (fs vs)))
theorem pmk_e {nm : Str} {ok : List V → Prop} {fs : List V → List (Str × V)} {a : Expr} {as : List Expr} {ta : TA} {p pos : Pos} {k : Nat} (T : ExK X.prog X.w X.K X.mg C fI nm ok fs) (hr : Room k X.A) (hk1 : 1 ≤ k) (ha : PA X (a :: as) ta) (hg : Gl X nm) (hdb : (nm == ("__debug__" : Str)) = false := by decide)
    (he : starEach (a :: as) X.env = (false, eval a X.env) :: starEach as X.env := by rfl) (hpl : (backTo pos (starEach as X.env)).any (·.1) = false := by rfl) :
    PMk X (.Call (.Name nm p) (a :: as) [] pos) (tMkE C ok fs ta) := by
  intro pins s σ H Q I h
  refine wpAny_Call_Name_kw (ld_glob I hg T.gC ?_ hdb)
  refine PySem.W.callWith_K (h₀ := X.base) I.ok.mod.kin T.kC (thn (ha.run pos pins s σ H _ I h) fun us s1 hh => ?_) he hpl
  obtain ⟨vs, H1, I1, r1, hok, q1⟩ := hh
  refine ⟨I1.kIn, ?_⟩
  show wpAny _ _ (call (.ref C) us) _ _ _
  obtain ⟨mA, rel, run⟩ := T.run vs us hok r1
  have hlim := I1.nolimit
  have hglb := inv_glb I1 T.sup
  have hul : us.length ≤ sizeLine := by
    rw [← r1.length]
    exact Nat.le_trans (T.len vs hok) (by decide)
  obtain ⟨hp, g, dr, tk, os⟩ := s1
  refine wpAny_call (BwM.ex_made T.ex I1.kIn hlim hglb hul (by have := hr.dp; omega) run fun h' tk' e d M => ?_)
  show MkP X pins σ Q (.ref e) ⟨h', g, dr, tk', os⟩
  obtain ⟨oe, fv, hoe, hc, hd, hdat, h1⟩ := M.obj
  have hns := M.ns
  obtain ⟨G', g1, g2⟩ := restrict h' fun b => decide (b ≠ e)
  have gk : ∀ b, b ≠ e → G'.get? b = h'.get? b := fun b hb => g1 b (decide_eq_true hb)
  have ge : G'.get? e = none := g2 e (by simp)
  have old : ∀ b o, hp.get? b = some o → G'.get? b = some o := fun b o q => (gk b (Nat.ne_of_lt (Nat.lt_of_lt_of_le (Heap.lt_size q) M.new))).trans (M.keep b o q)
  have ob : ObjOk X.prog X.w (upd H1 d (.xd (fs vs))) G' d (.xd (fs vs)) := ⟨mA, hns.at (fun o q => (gk d M.dne).trans q), rel⟩
  have J : Inv X pins σ (upd H1 d (.xd (fs vs))) ⟨G', g, dr, tk', os⟩ := I1.laid (t' := tk') old M.dbig ob
  refine ⟨e, oe, fv, ⟨G', g, dr, tk', os⟩, _, .ref C, some d, rfl, J, fun b o q => ?_, ge, hoe, ⟨hc, hd⟩, hdat, h1, ?_, rfl, I1.bare, raises_own T.exC T.tyC, q1 d (I1.hok.fresh M.dbig)⟩
  · by_cases hb : b = e
    · have q' : G'.get? b = some o := q
      rw [hb, ge] at q'
      cases q'
    · exact (gk b hb).symm.trans q
  · rw [upd_ne (Ne.symm M.dne)]
    exact I1.hok.fresh M.new
def ok1 (vs : List V) : Prop := ∃ v, vs = [v]
def fs1 (f : Str) (vs : List V) : List (Str × V) := vs.map fun v => (f, v)
def ok2 (vs : List V) : Prop := ∃ (z : Str) (v : V), vs = [.str z, v] ∧ z.length ≤ 1000
def fs2 (f f2 : Str) (vs : List V) : List (Str × V) := match vs with
  | [v, u] => [(f2, u), (f, v)]
  | _ => []
theorem run1 {nm qual : Str} {st : Stmt} {cda cc : Addr} {y f : Str} (Fx : BwM.ExF K C fI) (T : BwM.ExT K P C fI nm qual st cda cc) (S : BwM.Txt1 st y f) (hf : PySem.W.findIn K (.ref C) f = some none) (vs : List V) (us : List Value) (ok : ok1 vs) (r : Vals vs us) :
    ∃ mA : Str → Option Value, (∀ g, RelO ((fs1 f vs).lookup g) (mA g)) ∧
    ∀ (A' : Around) (R' : Result → Shared → Prop) (s' : Shared) (x t0 : Addr), A'.depth < recursionLimit → K.In s'.heap → s'.heap.NoLimit → BwM.Glb s'.heap → s'.heap.get? x = some (PySem.HandSPX.excO C t0) → K.lookup x = none →
      (∀ h' tk dx, BwM.IniEnd s'.heap h' x C dx mA → R' (.ok (.ret .none)) { s' with heap := h', toks := tk }) → codeAny (model P w) A' (.call (.ref fI) ⟨.ref x :: us, []⟩) R' s' := by
  obtain ⟨v, rfl⟩ := ok
  obtain ⟨u, rfl, ru⟩ := vals1 r
  refine ⟨fun z => if z = f then some u else none, fun g => ?_, fun A' R' s' x t0 h1 h2 h3 h4 h5 h6 h7 => BwM.ini1 Fx T S hf h2 h3 h4 h5 h6 h1 h7⟩
  exact relO_put (fs := []) (mA := fun _ => none) ru (fun _ => True.intro) g
theorem run2 {nm qual : Str} {st : Stmt} {cda cc : Addr} {y f y2 f2 : Str} (Fx : BwM.ExF K C fI) (T : BwM.ExT K P C fI nm qual st cda cc) (S : BwM.Txt2 st y f y2 f2) (hf : PySem.W.findIn K (.ref C) f = some none) (hf2 : PySem.W.findIn K (.ref C) f2 = some none) (vs : List V) (us : List Value) (ok : ok2 vs) (r : Vals vs us) :
    ∃ mA : Str → Option Value, (∀ g, RelO ((fs2 f f2 vs).lookup g) (mA g)) ∧
    ∀ (A' : Around) (R' : Result → Shared → Prop) (s' : Shared) (x t0 : Addr), A'.depth < recursionLimit → K.In s'.heap → s'.heap.NoLimit → BwM.Glb s'.heap → s'.heap.get? x = some (PySem.HandSPX.excO C t0) → K.lookup x = none →
      (∀ h' tk dx, BwM.IniEnd s'.heap h' x C dx mA → R' (.ok (.ret .none)) { s' with heap := h', toks := tk }) → codeAny (model P w) A' (.call (.ref fI) ⟨.ref x :: us, []⟩) R' s' := by
  obtain ⟨z, v, rfl, hz⟩ := ok
  obtain ⟨u, u', rfl, ru, ru'⟩ := vals2 r
  obtain ⟨tz, rfl⟩ := (show ∃ t, u = Value.str z t from ru)
  refine ⟨fun q => if q = f2 then some u' else if q = f then some (.str z tz) else none, fun g => ?_, fun A' R' s' x t0 h1 h2 h3 h4 h5 h6 h7 => BwM.ini2 Fx T S hf hf2 h2 h3 h4 h5 h6 h1 hz h7⟩
  exact relO_put ru' (fun g => relO_put (fs := []) (mA := fun _ => none) ru (fun _ => True.intro) g) g
end
end Bw

namespace Bw
open PySem PySem.Spec PyProof.Rows L2
/-! ### try with clauses, with and without a name -/
abbrev Suite := Addr → Value → Option Addr → TS
def Ends.clr (D : Ends) (i : Nat) : Ends := { nx := fun σ H => D.nx (σ.set i none) H, rt := D.rt, bk := fun σ H => D.bk (σ.set i none) H, ct := fun σ H => D.ct (σ.set i none) H }
def suiteAt (o : Option Nat) (ts : Suite) (cls : Value) (d : Option Addr) (D : Ends) (σ : L2.St) (H : Hp) (a : Addr) : Prop :=
  match o with
  | none => ts a cls d D σ H
  | some i => ts a cls d (Ends.clr D i) (σ.set i (some (.ref a))) H
def wH (K : PySem.W.Frag) (Wout : WX) (D : Ends) : List (Value × Option Nat × Suite) → WX
  | [] => Wout
  | (c, o, ts) :: r => fun cls d σ H => ∃ b, PySem.W.exmOne K cls c = some b ∧ (b = true → ∀ a, H a = none → suiteAt o ts cls d D σ H a) ∧ (b = false → wH K Wout D r cls d σ H)
/-- a clause's name, if it has one -/
def clauseAt (X : Cx) (o : Option Nat) (n : Option Str) : Prop :=
  match o, n with
  | none, none => True
  | some i, some n => X.N[i]? = some n ∧ X.env.kindOf n = some .local
  | _, _ => False
inductive HsOk (X : Cx) : List ExceptHandler → List (Value × Option Nat × Suite) → Prop
  | nil : HsOk X [] []
  | cons {x : Str} {n : Option Str} {c : Value} {o : Option Nat} {ts : Suite} {b₀ : Stmt} {suite : List Stmt} {np pos' : Pos} {hds : List ExceptHandler} {l : List (Value × Option Nat × Suite)} (hc : Names X x c) (hn : clauseAt X o n)
      (hsu : ∀ (a : Addr) (oe : Obj) (cls : Value) (d : Option Addr) (pn : List (Addr × Obj)), Zc cls d oe → (∃ vs, oe.data = .fields vs) → PSs (X.suite a ((a, oe) :: pn)) (b₀ :: suite) (ts a cls d)) (r : HsOk X hds l) :
      HsOk X (.ExceptHandler (some (.Name x np)) n (b₀ :: suite) pos' :: hds) ((c, o, ts) :: l)
section
variable {X : Cx} {body : List Stmt} {h₀ : ExceptHandler} {hds : List ExceptHandler} {l : List (Value × Option Nat × Suite)} {pos : Pos} {tb : WX → TS} {Wout : WX}
/-- what is known of an exception that was caught and lies still -/
structure Caught (X : Cx) (pins : List (Addr × Obj)) (σ : L2.St) (H : Hp) (a : Addr) (B : Heap) (sI s' : Shared) (cls : Value) (d : Option Addr) (h3 : Heap) : Prop where
  I : Inv X pins σ H sI
  nb : ∀ b o, sI.heap.get? b = some o → b ∉ frs X.stack → B.get? b = some o
  up : sI.heap.UpToSlots h3
  fl : HandSPX.FlyingZ B (X.env :: X.outer) a (Zc cls d) h3
  na : H a = none
  os : s'.os = sI.os
  ag : AllBare s'.gens
theorem Caught.notFr {pins : List (Addr × Obj)} {σ : L2.St} {H : Hp} {a : Addr} {B : Heap} {sI s' : Shared} {cls : Value} {d : Option Addr} {h3 : Heap} (c : Caught X pins σ H a B sI s' cls d h3) (hf : X.env.frame = some X.env.locals) : a ≠ X.env.locals ∧ a ∉ X.fs := by
  obtain ⟨oe3, vs3, he3, _, hd3⟩ := c.fl.there
  have nfr : a ∉ frs (X.env :: X.outer) := fun hm => by
    obtain ⟨_, o', e', hnf⟩ := c.fl.2.2.1.mem hm
    rw [he3] at e'
    cases e'
    exact hnf _ hd3
  refine ⟨fun z => nfr (List.mem_filterMap.mpr ⟨X.env, List.mem_cons_self, by rw [hf, z]⟩), fun hm => ?_⟩
  obtain ⟨e, he, q⟩ := List.mem_filterMap.mp hm
  exact nfr (List.mem_filterMap.mpr ⟨e, List.mem_cons_of_mem _ he, q⟩)
theorem handle_all (hs : X.stack = X.env :: X.outer) (hf : X.env.frame = some X.env.locals) (hN : X.N.Nodup) (tk : Takes X Wout) {pins : List (Addr × Obj)} {σ : L2.St} {H : Hp} {a : Addr} {B : Heap} {sI s' : Shared} {cls : Value} {d : Option Addr} {h3 : Heap} {D : Ends}
    (c : Caught X pins σ H a B sI s' cls d h3) (hk : HsOk X hds l) : wH X.K Wout D l cls d σ H → wpAny (model X.prog X.w) X.A (handleBy (.ref a) X.env hds) (SP X pins D) X.xe { s' with heap := h3 } := by
  have ok := c.I.ok
  have J3 : Inv X pins σ H { s' with heap := h3 } := c.I.landed c.nb c.fl.1 c.up c.os c.ag
  obtain ⟨oe3, vs3, he3, hz3, hd3⟩ := c.fl.there
  obtain ⟨nL, nF⟩ := c.notFr hf
  have S3 := J3.suite he3 hd3 c.na nL nF
  induction hk with
  | nil =>
    intro w
    refine wpAny_handleBy_nil ?_
    obtain ⟨k1, k2, k3, oe, vs, T, oT, ts', he, hz, hd, h1, hr⟩ := id c.fl
    unfold PySem.passOn
    refine wpAny_bind (wpAny_field he hd h1 ?_)
    rw [if_neg (show ¬ ((Value.ref T == Value.none) = true) from by simp)]
    have fin : wpAny (model X.prog X.w) X.A (setFlight (.ref a) X.env.frame) (fun _ s4 => wpAny (model X.prog X.w) X.A (throw (.ref a) : Sem Flow) (SP X pins D) X.xe s4) X.xe { s' with heap := h3 } := by
      rw [hf]
      refine HandSPX.setFlight_upZ c.fl fun h4 hh4 up4 => wpAny_throw (tk _ _ ?_)
      exact ⟨a, B, sI, pins, σ, H, cls, d, rfl, c.I, c.nb, c.up.trans up4, .inr (.inr (by rw [hs]; exact hh4)), c.na, c.os, c.ag, w⟩
    first
      | exact wpAny_bind (wpAny_pure (wpAny_bind fin))
      | exact wpAny_bind fin
  | @cons x n cv o ts b₀ suite np pos' hds2 l2 hc hn hsu r ih =>
    intro w
    obtain ⟨b, hb1, hyes, hno⟩ := w
    have LT : PySem.W.Looks (model X.prog X.w) h3 (typeOf (.ref a)) cls := fun A Q E s k q => wpAny_typeOf_ref (k _ _ he3) (by rw [hz3.1]; exact q)
    have LM := PySem.W.exm_one (M := model X.prog X.w) (J3.kIn) LT hb1
    have test : ∀ {Q : Value → Shared → Prop} {E : Value → Shared → Prop}, Q cv { s' with heap := h3 } → wpAny (model X.prog X.w) (X.A.mark (some (.ref a))) (eval (.Name x np) X.env) Q E { s' with heap := h3 } := fun {Q E} q => by
      obtain ⟨hg, hdbg, hm | ⟨hm, hv, hnn⟩⟩ := hc
      · exact ld_glob (X := X.suite a ((a, oe3) :: (X.pn ++ pins))) S3 hg hm q hdbg
      · exact ld_blt (X := X.suite a ((a, oe3) :: (X.pn ++ pins))) S3 hg hm hv q hnn hdbg
    refine wpAny_handleBy_cons (codeAny_handlers_test (test (LM.here ?_))) (by intro q; cases q)
    cases b with
    | false => exact ih (hno rfl)
    | true =>
      have w1 := hyes rfl a c.na
      cases o with
      | none =>
        cases n with
        | some n => exact hn.elim
        | none =>
          refine codeAny_handlers_suite (HandSPX.lands_againZ c.fl fun h4 fl4 up4 => ?_)
          have J4 : Inv X pins σ H { s' with heap := h4 } := c.I.landed c.nb fl4.1 (c.up.trans up4) c.os c.ag
          obtain ⟨oe4, vs4, he4, hz4, hd4⟩ := fl4.there
          refine wpAny_mono ((hsu a oe4 cls d (X.pn ++ pins) hz4 ⟨_, hd4⟩).run [] _ _ H _ (J4.suite he4 hd4 c.na nL nF) w1) (fun f s6 hsp => ?_) (fun _ _ z => False.elim z)
          cases f with
          | ret u => obtain ⟨v6, σ6, H6, S6, r6, q6⟩ := hsp; exact ⟨_, _, _, S6.unsuite ok, r6, q6⟩
          | _ => obtain ⟨σ6, H6, S6, q6⟩ := hsp; exact ⟨_, _, S6.unsuite ok, q6⟩
      | some i =>
        cases n with
        | none => exact hn.elim
        | some n =>
          obtain ⟨hi, hln⟩ := hn
          refine codeAny_handlers_suite_as (HandSPX.lands_againZ c.fl fun h4 fl4 up4 => ?_)
          have J4 : Inv X pins σ H { s' with heap := h4 } := c.I.landed c.nb fl4.1 (c.up.trans up4) c.os c.ag
          obtain ⟨oe4, vs4, he4, hz4, hd4⟩ := fl4.there
          refine store_ok (X := X.suite a ((a, oe4) :: (X.pn ++ pins))) (v := .ref a) (J4.suite he4 hd4 c.na nL nF) hN hi (.inl hln) rfl (fun s5 S5 => ?_) (.inr hln)
          refine wpAny_mono ((hsu a oe4 cls d (X.pn ++ pins) hz4 ⟨_, hd4⟩).run [] s5 _ H _ S5 w1) (fun f s6 hsp => ?_) (fun _ _ z => False.elim z)
          have end_ : ∀ {σ6 : L2.St} {H6 : Hp} {Q : Shared → Prop}, Inv (X.suite a ((a, oe4) :: (X.pn ++ pins))) [] σ6 H6 s6 → (∀ s7, Inv X pins (σ6.set i none) H6 s7 → Q s7) →
              wpAny (model X.prog X.w) X.A (do bindName X.env n .none; unbindBehindTheSuite X.env n pos') (fun _ s7 => Q s7) X.xe s6 := fun {σ6 H6 Q} S6 hq => gone_ok (S6.unsuite ok) hN hi hln hq
          cases f with
          | ret u => obtain ⟨v6, σ6, H6, S6, r6, q6⟩ := hsp; exact end_ S6 fun s7 J7 => ⟨_, _, _, J7, r6, q6⟩
          | _ => obtain ⟨σ6, H6, S6, q6⟩ := hsp; exact end_ S6 fun s7 J7 => ⟨_, _, J7, q6⟩
theorem ps_tryH (hs : X.stack = X.env :: X.outer) (hf : X.env.frame = some X.env.locals) (hN : X.N.Nodup) (tk : Takes X Wout)
    (hb : ∀ (W : WX) (pn : List (Addr × Obj)) (xe : Value → Shared → Prop), Takes (X.tr pn xe) W → PassesOwn (model X.prog X.w) X.A X.env xe → PSs (X.tr pn xe) body (tb W))
    (hh : HsOk X (h₀ :: hds) l) : PS X (.Try body (h₀ :: hds) [] [] pos) (fun D σ H => tb (wH X.K Wout D l) D σ H) := by
  refine ⟨fun pins s σ H D I h => wpAny_Try_except ?_⟩
  have ok := I.ok
  have hfr : X.A.frames = some (X.env :: X.outer) := by rw [ok.frames, hs]
  refine wpAny_mono ((hb (wH X.K Wout D l) (X.pn ++ pins) (fun e s₁ => wpAny (model X.prog X.w) X.A (noteFrame e X.env) (fun _ s₂ => wpAny (model X.prog X.w) X.A (setFlight e none) (fun _ s₃ =>
    wpAny (model X.prog X.w) X.A (handleBy e X.env (h₀ :: hds)) (SP X pins D) X.xe s₃) X.xe s₂) X.xe s₁) (fun u s' xx => ?_) PassesOwn.looking).run [] s σ H D (I.toTry _) h) (fun f s1 hsp => ?_) (fun e s1 he => he)
  · obtain ⟨a, B, sI, pins', σ', H', cls, d, rfl, J', nb, up, sky, na, os, ag, w⟩ := xx
    have sky' : Sky B (X.env :: X.outer) a (Zc cls d) X.env.locals s'.heap := by rw [← hs]; exact sky
    show wpAny (model X.prog X.w) X.A (noteFrame (.ref a) X.env) _ _ _
    exact Sky.land Zc.steady hfr hf sky' fun h3 fl3 up3 => handle_all hs hf hN tk ⟨J'.ofTry ok, nb, up.trans up3, fl3, na, os, ag⟩ hh w
  · cases f with
    | next => obtain ⟨σ', H', J', q⟩ := hsp; exact wpAny_execs_nil ⟨σ', H', J'.ofTry ok, q⟩
    | ret u => obtain ⟨v, σ', H', J', r, q⟩ := hsp; exact ⟨v, σ', H', J'.ofTry ok, r, q⟩
    | _ => obtain ⟨σ', H', J', q⟩ := hsp; exact ⟨σ', H', J'.ofTry ok, q⟩
end
end Bw

namespace BwM
open PySem PySem.W PySem.Spec PySem.Calls PyProof.Rows
section
variable {prog : Program} {w : World} {A : Around} {E : Value → Shared → Prop} {s : Shared} {K : Frag} {x D : Addr} {ox : Obj} {od : Option Obj}
theorem found_any {C : Addr} {name : Str} {a g : Value} (hc : (clsIn K C).isSome = true) (ha : findIn K (.ref C) name = some (some a)) (hg : specialIn K a "__get__" = some (some g)) (ht : takesIn K a = some true) : findObj K C od name = some (.bind g a) := by
  obtain ⟨cd, hc⟩ := Option.isSome_iff_exists.mp hc
  unfold findObj
  rw [hc, Option.bind_some, ha, Option.bind_some]
  simp [hg, ht]
theorem cls_of_exc {Q : Option Value → Shared → Prop} (C : L2.ExcC K D) (X : K.In s.heap) (I : InstAt s.heap x ox D od) (h : Q (some (.ref D)) { s with toks := s.toks + 1 }) : wpAny (model prog w) A (getAttr? (.ref x) "__class__") Q E s := by
  have hf : findObj K D od "__class__" = some (.bind (.builtin "getset_descriptor.__get__") (.builtin "object.__class__")) := found_any (by obtain ⟨cd, hc, _⟩ := any_some C.hd; rw [hc]; rfl) C.ha C.hn C.ht
  obtain ⟨hp, g, d, t, os⟩ := s
  have T0 := I.type (M := model prog w)
  have T1 := looks_findIn (M := model prog w) X C.hg
  have T2 := looks_findIn (M := model prog w) X C.hk
  have T3 := looks_find (M := model prog w) X I hf
  have sub : Looks (model prog w) hp (isInstance (.ref x) (.type "BaseException")) true := T0.andThen (looks_subIn X C.hs)
  have e0 : (Value.builtin "BaseException.__getattribute__" == Value.builtin "object.__getattribute__") = false := by decide +kernel
  have e1 : (onTheHeap (Value.ref D) && Value.builtin "BaseException.__getattribute__" == Value.builtin "object.__getattribute__") = false := by rw [e0]; rfl
  unfold getAttr? getAttrBy? getAttrBy
  refine wpAny_bind (wpAny_mkText (wpAny_bind (wpAny_attempt (wpAny_holding (wpAny_bind (T0.at (wpAny_bind (T1.at ?_))))))))
  show wpAny _ _ (if (onTheHeap (Value.ref D) && Value.builtin "BaseException.__getattribute__" == Value.builtin "object.__getattribute__") = true then _ else _) _ _ _
  rw [e1, if_neg Bool.false_ne_true]
  unfold getAttrByItsOwn hookBefore
  refine wpAny_bind ?_
  rw [if_pos (show onTheHeap (Value.ref D) = true from rfl)]
  refine T2.at (wpAny_bind (wpAny_attempt (wpAny_holding ?_)))
  unfold callGetattribute
  rw [show (false && onTheHeap (Value.builtin "BaseException.__getattribute__")) = false from rfl, if_neg Bool.false_ne_true]
  unfold boundAndCalled
  rw [PySem.F.excAttr_ValueError.ga.bind (.ref x)]
  refine wpAny_bind (wpAny_pure ?_)
  show wpAny _ _ (call (.builtin "BaseException.__getattribute__") [.ref x, .str "__class__" t]) _ _ _
  refine wpAny_call (codeAny_call_builtin PySem.F.excAttr_ValueError.ga.plain PySem.F.entry_bexc_ga ?_)
  refine @check_slot (model prog w) _ _ ⟨hp, g, d, t + 1, os⟩ "BaseException.__getattribute__" "BaseException" "__getattribute__" (.ref x) [.str "__class__" t] [] _ (by decide +kernel) (by decide +kernel) sub (PySem.F.args_bexc_ga (.ref x) (.str "__class__" t)) ?_
  unfold Builtin.«object.__getattribute__»
  refine wpAny_bind (wpAny_of_eq (a := ((Value.ref x : Value), [Value.str "__class__" t])) (by first | rfl | (simp only [slotArgs]; rfl)) ?_)
  refine wpAny_bind (wpAny_pure (wpAny_bind (T0.at (wpAny_bind (T3.at ?_)))))
  show wpAny _ _ (holding [Value.builtin "object.__class__"] (call (.builtin "getset_descriptor.__get__") [.builtin "object.__class__", .ref x, .ref D]) >>= ret) _ _ _
  refine wpAny_bind (wpAny_holding (wpAny_call (class_get (s := ⟨hp, g, d, t + 1, os⟩) (ox := ox) (od := od) X I C.hm ?_)))
  refine wpAny_pure ?_
  show wpAny _ _ (handedOut (.ref D)) _ _ _
  rw [handedOut_of (v := .ref D) rfl]
  first
    | exact wpAny_pure (wpAny_pure h)
    | exact wpAny_pure h
    | exact wpAny_pure (wpAny_bind (wpAny_pure (wpAny_pure h)))
theorem kit_exc (C : L2.ExcC K D) : KitX K (.ref x) (.ref D) (fun h => InstAt h x ox D od) where
  ty := fun _ _ _ I => I.type
  it := fun _ _ X _ => by
    obtain ⟨cdD, hcD, _⟩ := any_some C.hd
    unfold clsIn at hcD
    split at hcD
    · rename_i ho
      intro A' Q' E' s' k q
      unfold isType loadHead
      exact wpAny_bind (wpAny_loadPart (k _ _ (X _ _ ho)) (wpAny_pure q))
    · cases hcD
  ne := fun h tp dd its n sl X htp => by
    obtain ⟨cdD, hcD, _⟩ := any_some C.hd
    refine Bool.eq_false_iff.mpr fun q => ?_
    have e : D = tp := Value.ref.inj (beq_iff_eq.mp q)
    subst e
    unfold clsIn at hcD
    split at hcD
    · rename_i ho
      cases (X _ _ ho).symm.trans htp
    · cases hcD
  ca := fun X I k => cls_of_exc C X I k
end
end BwM
namespace Bw
open PySem PySem.Spec PyProof.Rows L2
/-- isinstance(e, c), e the error that the suite holds (its dict may stand) -/
theorem call_isX {X : Cx} {a D : Addr} {oe : Obj} {dx : Option Addr} {pn : List (Addr × Obj)} (C : ExcC X.K D) (hz : Zc (.ref D) dx oe) (hf : ∃ vs, oe.data = .fields vs) :
    CallR (X.suite a ((a, oe) :: pn)) (.builtin "isinstance") (fun xs H Q => (∀ d, dx = some d → ∃ fs, H d = some (.xd fs)) ∧ rIsE X.K D a xs H Q) := by
  intro pins s σ H xs us Q I r h
  obtain ⟨hd, c, cv, b, rfl, hcv, e, q⟩ := h
  obtain ⟨u1, u2, rfl, r1, r2⟩ := vals2 r
  cases r1
  have ec := hcv _ r2
  subst ec
  obtain ⟨hget, _⟩ := I.pin (a, oe) (List.mem_append.mpr (.inl List.mem_cons_self))
  obtain ⟨vs, hv⟩ := hf
  have J : ∃ od, PySem.W.InstAt s.heap a oe D od := by
    obtain ⟨oc, odd, oda, osl⟩ := oe
    obtain ⟨h1, h2⟩ := hz
    dsimp only at h1 h2 hv
    subst h1 h2 hv
    cases odd with
    | none => exact ⟨none, hget, rfl, rfl, trivial⟩
    | some d =>
      obtain ⟨fs, hd⟩ := hd d rfl
      obtain ⟨mA, hns, _⟩ := (show ObjOk X.prog X.w H s.heap d (.xd fs) from I.hok d _ hd)
      obtain ⟨od, ho, _⟩ := lookIn_ns hns
      exact ⟨some od, hget, rfl, rfl, ho⟩
  obtain ⟨od, J⟩ := J
  exact PySem.W.kia_one (BwM.kit_exc (od := od) C) I.kIn J e (fun z => nomatch z) fun tk => ⟨.bl b, H, I.kept (t' := tk) fun _ _ z => z, rfl, q⟩
end Bw

namespace BwM
open PySem PySem.W PySem.Spec PySem.Calls PyProof.Rows

theorem int_mul_ref {M : Model} {A : Around} {E : Value → Shared → Prop} {h : Heap} {g : Array GenState} {d : Drawn} {t : Nat} {os : OsState} {x C dx : Addr} (a : Int) (tk : Tok) (hx : h.get? x = some (instObj C dx)) {Q : Fin → Shared → Prop}
    (hq : Q (.done (.ret .notImplemented)) ⟨h, g, d, t, os⟩) : wpAny M A (Builtin.«int.__mul__» ⟨[.int a tk, .ref x], []⟩) Q E ⟨h, g, d, t, os⟩ := by
  wp_walk
  exact hq
section
variable {prog : Program} {w : World} {A : Around} {E : Value → Shared → Prop} {s : Shared} {K : Frag} {x C f g L : Addr} {od : Option Obj} {h₀ : Heap} {m : Str → Option Value} {dx : Addr} {sl : Array (Option Value)}
structure Wr (P : Prop) : Prop where
  go : P
theorem call_mul_ref {hh : Heap} {gg : Array GenState} {d : Drawn} {tt : Nat} {os : OsState} {i : Int} {t : Tok} {Q : Value → Shared → Prop} (hx : hh.get? x = some (instObj C dx)) (hq : Wr (Q .notImplemented ⟨hh, gg, d, tt, os⟩)) :
    wpAny (model prog w) A (call (.builtin "int.__mul__") [.int i t, .ref x]) Q E ⟨hh, gg, d, tt, os⟩ :=
  wpAny_call_entry (b := Builtin.«int.__mul__») (self := .int i t) (rest := [.ref x]) F.slot_int_mul (typeIs_int _ i t) F.entry_int_mul (int_mul_ref i t hx ⟨_, rfl, hq.go⟩) (F.args_int_mul_2 (.int i t) (.ref x))
/-- i * o where the class of o has its own reflected method -/
theorem refl_mul {i : Int} {t : Tok} {Q : Value → Shared → Prop} (X : K.In s.heap) (I : InstAt s.heap x (instObj C dx) C od) (hc : selfFirst K C = true) (hs : findIn K (.ref C) (PySem.dunder "mul") = some (some (.ref g)))
    (hr : findIn K (.ref C) (dunderR "mul") = some (some (.ref f))) (hf : isFn K (.ref f) = true) (hsub : subIn K (.ref C) (.type "int") = some false)
    (h : wpAny (model prog w) A (call (.ref f) [.ref x, .int i t]) (W.CmpBack Q) E s) : wpAny (model prog w) A (binaryOp .Mult (.int i t) (.ref x)) Q E s := by
  obtain ⟨cd, rest, hcd, hm⟩ := ksp_first hc
  have one := ksp_try (Q := Q) X I hr hf h
  obtain ⟨hh, gg, d, tt, os⟩ := s
  have T1 : Looks (model prog w) hh (typeOf (.int i t)) (.type "int") := Looks.of_pure rfl
  have T2 : Looks (model prog w) hh (typeOf (.ref x)) (.ref C) := I.type
  have T3 : Looks (model prog w) hh (fillsNumberSlot (.type "int") "mul") true := Looks.of_pure F.fills_int_mul
  have T4 : Looks (model prog w) hh (fillsNumberSlot (.ref C) "mul") true := fills_K X hcd hm hs
  have T5 : Looks (model prog w) hh (isSubtype (.ref C) (.type "int")) false := looks_subIn X hsub
  have T6 : Looks (model prog w) hh (numberSlotInPython (.type "int") "mul") false := Looks.of_pure rfl
  have hne : (Value.type "int" == Value.ref C) = false := Bool.eq_false_iff.mpr fun q => by cases beq_iff_eq.mp q
  have lk : typeLookup (.type "int") (PySem.dunder "mul") = pure (some (.builtin "int.__mul__")) := by rw [typeLookup_type, builtinLookup_eq_fast]; kernel_rfl
  have T7 : Looks (model prog w) hh (specialOf (.int i t) (PySem.dunder "mul")) (some (.builtin "int.__mul__")) := T1.andThen (Looks.of_pure lk)
  have two : wpAny (model prog w) A (tryMethod (.int i t) (PySem.dunder "mul") (.ref x)) (fun r s' => r = none ∧ s' = ⟨hh, gg, d, tt, os⟩) E ⟨hh, gg, d, tt, os⟩ := by
    unfold tryMethod callSpecial?
    refine wpAny_bind ?_
    refine wpAny_bind ?_
    refine T7.at ?_
    refine wpAny_holding (wpAny_bind ?_)
    rw [show (Value.builtin "int.__mul__" : Value) = .builtin "int.__mul__" from rfl, F.slot_int_mul.bind]
    refine wpAny_pure ?_
    refine wpAny_bind ?_
    show wpAny _ _ (call (.builtin "int.__mul__") [.int i t, .ref x]) _ _ _
    exact call_mul_ref I.at_ ⟨wpAny_pure (wpAny_pure ⟨rfl, rfl⟩)⟩
  unfold binaryOp
  refine wpAny_holding (wpAny_bind ?_)
  unfold binaryOp1
  refine wpAny_bind (T1.at ?_)
  refine wpAny_bind (T2.at ?_)
  show wpAny (model prog w) A (fillsNumberSlot (.type "int") "mul" >>= _) _ _ _
  refine wpAny_bind (T3.at ?_)
  simp only [hne, Bool.false_eq_true, if_false]
  refine wpAny_bind (T4.at ?_)
  simp only [Bool.and_self, if_true]
  refine wpAny_bind (T5.at ?_)
  simp only [Bool.false_eq_true, if_false, Bool.not_false, Bool.and_self, if_true]
  refine wpAny_bind (T6.at ?_)
  simp only [Bool.false_eq_true, if_false]
  refine wpAny_bind (wpAny_mono two (fun r s' z => ?_) fun _ _ z => z)
  obtain ⟨rfl, rfl⟩ := z
  refine wpAny_bind (wpAny_mono one (fun r s' z => ?_) fun _ _ z => z)
  obtain ⟨v, rfl, q⟩ := z
  exact wpAny_bind (wpAny_rule (wpAny_pure (wpAny_pure q)))
end
end BwM

namespace Bw
open PySem PySem.Spec PyProof.Rows L2
section
variable {X : Cx} {W : WX} {k : Nat} {f g C : Addr} {sp : Sp} {a b o e : Expr} {es : List Expr} {ta tb : TE} {t : TA} {pos apos p : Pos} {nm : String} {m x : Str}
/-- a * b, a an int, b an instance of the class at C with its own reflected product -/
def tRefI (C : Addr) (sp : Sp) (W : WX) (ta tb : TE) : TE := fun σ H Q => ta σ H fun x H1 => tb σ H1 fun y H2 =>
  ∃ i b dx fs, x = .int i ∧ y = .ref b ∧ H2 b = some (.ins C dx fs) ∧ sp [y, x] H2 Q (WE W σ)
theorem pe_refI (O : OpF X.K C "mul" g) (hr : PySem.W.findIn X.K (.ref C) (PySem.dunderR "mul") = some (some (.ref f))) (hf : PySem.W.isFn X.K (.ref f) = true) (hs : PySem.W.subIn X.K (.ref C) (.type "int") = some false) (G : Call1 X W k f sp)
    (ha : PE X a ta) (hb : PE X b tb) : PE X (.BinOp a .Mult b pos) (tRefI C sp W ta tb) := by
  refine ⟨fun pins s σ H Q I h => ?_⟩
  refine wpAny_BinOp (binT ha hb I h fun v u s2 x y H2 I2 rx ry q => ?_)
  obtain ⟨i, b, dx, fs, rfl, rfl, h1, q⟩ := q
  cases ry
  obtain ⟨tk, rfl⟩ := (show ∃ t, v = Value.int i t from rx)
  obtain ⟨od, J⟩ := inst_at I2 h1
  exact BwM.refl_mul I2.kIn J O.self O.at_ hr hf hs (G.back (vs := [.ref b, .int i]) I2 (.cons rfl (.cons ⟨tk, rfl⟩ .nil)) q)
/-- x is True, x is False -/
def rIsL : R2 := fun x y H Q => ∃ b, y = .bl b ∧ Q (.bl (decide (x = .bl b))) H
theorem op_isL : OpR X (compareOp .Is) rIsL := by
  intro pins s σ H x y v u Q I rx ry h
  obtain ⟨b, rfl, q⟩ := h
  cases (show u = Value.bool b from ry)
  by_cases e : x = .bl b
  · subst e
    cases (show v = Value.bool b from rx)
    exact wpAny_is_self rfl ⟨.bl true, H, I, rfl, by simpa using q⟩
  · have hv : v ≠ .bool b := by
      intro z
      subst z
      cases x with
      | bl c => exact e (congrArg V.bl (Value.bool.inj (show Value.bool b = Value.bool c from rx)).symm)
      | non => exact nomatch (show Value.bool b = Value.none from rx)
      | int i => obtain ⟨t, q⟩ := (show ∃ t, Value.bool b = Value.int i t from rx); cases q
      | str i => obtain ⟨t, q⟩ := (show ∃ t, Value.bool b = Value.str i t from rx); cases q
      | byt i => obtain ⟨t, q⟩ := (show ∃ t, Value.bool b = Value.bytes i t from rx); cases q
      | flt i => obtain ⟨t, q⟩ := (show ∃ t, Value.bool b = Value.float i t from rx); cases q
      | ref a => exact nomatch (show Value.bool b = Value.ref a from rx)
      | ty n => exact nomatch (show Value.bool b = Value.type n from rx)
    have hs : ∀ w, w ≠ .bool b → RelV x w → plainIs w (.bool b) = true := by
      intro w hw rw'
      cases x with
      | bl c => cases (show w = Value.bool c from rw'); rfl
      | non => cases (show w = Value.none from rw'); rfl
      | int i => obtain ⟨t, q⟩ := (show ∃ t, w = Value.int i t from rw'); cases q; rfl
      | str i => obtain ⟨t, q⟩ := (show ∃ t, w = Value.str i t from rw'); cases q; rfl
      | byt i => obtain ⟨t, q⟩ := (show ∃ t, w = Value.bytes i t from rw'); cases q; rfl
      | flt i => obtain ⟨t, q⟩ := (show ∃ t, w = Value.float i t from rw'); cases q; rfl
      | ref a => cases (show w = Value.ref a from rw'); rfl
      | ty n => cases (show w = Value.type n from rw'); rfl
    exact wpAny_is_other (hs v hv rx) hv ⟨.bl false, H, I, rfl, by simpa [e] using q⟩
end
end Bw

namespace Bw
open PySem PySem.Spec PyProof.Rows L2
/-- a def that lets nothing out, to be called one level down -/
structure CallIn (X : Cx) (k : Nat) (f : Addr) (sp : Sp) : Prop where
  ex : ∃ (fd : FuncData) (ps : List Str), FnOk X.prog X.w X.K X.mg X.base (L2.CX X.prog X.w) k f fd ps sp ∧ Binds X.K fd ps []
  room : Room (k + 1) X.A
section
variable {X : Cx} {W : WX} {k : Nat} {f g C : Addr} {sp : Sp} {a b o e : Expr} {es : List Expr} {ta tb : TE} {t : TA} {pos apos p : Pos} {pins : List (Addr × Obj)} {σ : L2.St} {H : Hp} {s : Shared} {Q : VK} {nm : String} {m x : Str}
theorem CallIn.run (G : CallIn X k f sp) {vs : List V} {us : List Value} {E : Value → Shared → Prop} (I : Inv X pins σ H s) (r : Vals vs us) (h : sp vs H Q E0) :
    wpAny (model X.prog X.w) X.A.in1 (call (.ref f) us) (EP X pins σ Q) E s := by
  obtain ⟨fd, ps, F, B⟩ := G.ex
  have hl : us.length = ps.length := by rw [← r.length]; exact F.len _ _ _ _ h
  have b := B s us I.kIn (by rw [List.append_nil]; exact hl)
  rw [List.append_nil] at b
  refine wpAny_call (codeAny_mono (F.run X.A.in1 X.stack s H ⟨us, []⟩ us vs Q E0 G.room.in1 I.env0.in1 b r h) fun r s' hq => ?_)
  cases r with
  | error e => obtain ⟨_, _, _, _, _, _, _, _, _, _, _, _, z⟩ := hq; exact z.elim
  | ok fl =>
    cases fl with
    | ret u => exact I.after hq
    | _ => exact False.elim hq
/-- len(o), o an instance with its own __len__ -/
def rLenI (C : Addr) (sp : Sp) : List V → Hp → VK → Prop := fun vs H Q => ∃ a dx fs, vs = [.ref a] ∧ H a = some (.ins C dx fs) ∧ sp [.ref a] H (fun v H' => ∃ n : Nat, v = .int n ∧ n < 2 ^ 62 ∧ Q v H') E0
theorem call_lenI (h1 : PySem.W.findIn X.K (.ref C) "__len__" = some (some (.ref f))) (h2 : PySem.W.isFn X.K (.ref f) = true) (G : CallIn X k f sp) : CallR X (.builtin "len") (rLenI C sp) := by
  intro pins s σ H xs us Q I r h
  obtain ⟨a, dx, fs, rfl, ha, q⟩ := h
  obtain ⟨u, rfl, ru⟩ := vals1 r
  cases ru
  obtain ⟨od, J⟩ := inst_at I ha
  obtain ⟨m, hF⟩ := I.fr
  refine PySem.W.len_K hF I.ok.mod.kin J h1 h2 (wpAny_mono (G.run (vs := [.ref a]) I (.cons rfl .nil) q) (fun v s' z => ?_) fun _ _ z => z)
  obtain ⟨y, H', I', ry, n, rfl, hn, q'⟩ := z
  obtain ⟨tk, rfl⟩ := (show ∃ t, v = Value.int n t from ry)
  refine ⟨⟨Int.natCast_nonneg n, by omega⟩, ⟨.int n, H', ?_, ⟨_, rfl⟩, q'⟩⟩
  exact I'.tok _
/-- o.f, a property -/
theorem pe_propI {p : Addr} (c : Cls X.K C) (hp : PropOf X.K C m p f) (G : CallIn X k f sp) (he : PE X e ta) (hab : attributeBase e m X.env (eval e X.env) = eval e X.env := by rfl) : PE X (.Attribute e m pos) (tProp C sp [] E0 ta) := by
  obtain ⟨fd, ps, F, B⟩ := G.ex
  exact pe_prop he c hp F G.room B .nil passL hab
/-- a == b, a an instance with its own __eq__ -/
def tEqI (K : PySem.W.Frag) (C : Addr) (sp : Sp) (W : WX) (ta tb : TE) : TE := fun σ H Q => ta σ H fun x H1 => tb σ H1 fun y H2 =>
  ∃ a dx fs t, x = .ref a ∧ H2 a = some (.ins C dx fs) ∧ TyX K H2 y t ∧ PySem.W.notFirst K C t = true ∧ sp [x, y] H2 Q (WE W σ)
theorem pe_eqI (h1 : PySem.W.findIn X.K (.ref C) "__eq__" = some (some (.ref f))) (h2 : PySem.W.isFn X.K (.ref f) = true) (G : Call1 X W k f sp) (ha : PE X a ta) (hb : PE X b tb) : PE X (.Compare a [.Eq] [b] pos) (tEqI X.K C sp W ta tb) := by
  refine ⟨fun pins s σ H Q I h => wpAny_Compare1 (binT ha hb I h fun v u s2 x y H2 I2 rx ry q => ?_) (nomark _)⟩
  obtain ⟨a, dx, fs, t, rfl, h3, ty, hn, q⟩ := q
  cases rx
  obtain ⟨od, J⟩ := inst_at I2 h3
  obtain ⟨m, hF⟩ := I2.fr
  obtain ⟨P, Z, hp, _⟩ := kit_of I2 ry ty
  show wpAny _ _ (richCompare .Eq (.ref a) u) _ _ _
  have Lb : PySem.W.Looks (model X.prog X.w) s2.heap (typeOf u) t := Z.ty _ _ I2.kIn hp
  refine PySem.W.cmp_K (op := .Eq) G.room.units0 hF I2.ok.mod.kin J Lb hn h1 h2 (G.back (vs := [.ref a, y]) I2 (.cons rfl (.cons ry .nil)) q)
end
end Bw

namespace Bw
open PySem PySem.Spec PyProof.Rows L2
/-! ### short names of readings -/
abbrev wE (E : XK) : WX := fun cls d _ H => E cls d H
abbrev w0 : WX := fun _ _ _ _ => False
abbrev rAddI : R2 := rI0 fun i j => .int (i + j)
abbrev rSubI : R2 := rI0 fun i j => .int (i - j)
abbrev rMulW : R2 := rI CMulW fun i j => .int (i * j)
abbrev rModN : R2 := rI (fun _ j => j ≠ 0) fun i j => .int (i.fmod j)
abbrev rDivW : R2 := rI CDivW fun i j => .int (i / j)
abbrev rPowI : R2 := rI CPow fun i j => .int (i ^ j.toNat)
abbrev rOrI : R2 := rI0 fun i j => .int (Builtin.bitOr i j)
abbrev rAndI : R2 := rI0 fun i j => .int (Builtin.bitAnd i j)
abbrev rNegI : V → Hp → VK → Prop := rU fun i => .int (-i)
abbrev rLtI : R2 := rI0 fun i j => .bl (decide (i < j))
abbrev rLeI : R2 := rI0 fun i j => .bl (decide (i ≤ j))
abbrev rGtI : R2 := rI0 fun i j => .bl (decide (j < i))
abbrev rGeI : R2 := rI0 fun i j => .bl (decide (j ≤ i))
abbrev rIsNo : R2 := fun x y H Q => y = .non ∧ Q (.bl (decide (x = .non))) H
abbrev rNotNo : R2 := fun x y H Q => y = .non ∧ Q (.bl (!decide (x = .non))) H
abbrev rAddS : R2 := fun x y H Q => ∃ i j, x = .str i ∧ y = .str j ∧ i.length + j.length ≤ sizeLine ∧ Q (.str (i ++ j)) H
abbrev rLenQ (K : PySem.W.Frag) : List V → Hp → VK → Prop := fun xs H Q => ∃ p ys, xs = [.ref p] ∧ (SqL K H p ys ∨ SqT K H p ys) ∧ Q (.int ys.length) H
abbrev rLenStr : List V → Hp → VK → Prop := fun xs H Q => ∃ z, xs = [.str z] ∧ z.length ≤ sizeLine ∧ Q (.int z.length) H
abbrev rAbs : List V → Hp → VK → Prop := fun xs H Q => ∃ i, xs = [.int i] ∧ Q (.int (if i < 0 then -i else i)) H
def rInt1 : List V → Hp → VK → Prop := fun xs H Q => (∃ i, xs = [.int i] ∧ Q (.int i) H) ∨ ∃ k, xs = [.bl k] ∧ Q (.int (if k then 1 else 0)) H
abbrev rMin2 : List V → Hp → VK → Prop := fun xs H Q => ∃ i j, xs = [.int i, .int j] ∧ Q (.int (if j < i then j else i)) H
abbrev rMax2 : List V → Hp → VK → Prop := fun xs H Q => ∃ i j, xs = [.int i, .int j] ∧ Q (.int (if j > i then j else i)) H
abbrev rListOf (K : PySem.W.Frag) : List V → Hp → VK → Prop := fun xs H Q => ∃ p ys, xs = [.ref p] ∧ (SqL K H p ys ∨ SqT K H p ys) ∧ ∀ l, H l = none → Q (.ref l) (upd H l (.lst ys))
abbrev rStrI : List V → Hp → VK → Prop := fun xs H Q => ∃ i, xs = [.int i] ∧ i.natAbs.log2 < 1920 ∧ Q (.str (toString i)) H
def tRse (W : WX) (t : L2.St → Hp → XK → Prop) : TS := fun _ σ H => t σ H fun cls d H' => W cls d σ H'
def tMkP (C : Addr) : L2.St → Hp → XK → Prop := fun _ H Q => Q (.ref C) none H
def tTry (K : PySem.W.Frag) (Wout : WX) (tb : WX → TS) (l : List (Value × Option Nat × Suite)) : TS := fun D σ H => tb (wH K Wout D l) D σ H
/-! ### fields by a known class -/
def tFldI (C : Addr) (f : Str) (ta : TE) : TE := fun σ H Q => ta σ H fun x H1 => ∃ a dx fs v, x = .ref a ∧ H1 a = some (.ins C dx fs) ∧ fs.lookup f = some v ∧ Q v H1
def tConI (C : Addr) (f : Str) (v : V) (ta : TE) : TE := fun σ H Q => ta σ H fun x H1 => ∃ a dx fs, x = .ref a ∧ H1 a = some (.ins C dx fs) ∧ fs.lookup f = none ∧ Q v H1
def sFldI (C : Addr) (f : Str) (ta tv : TE) : TS := fun D σ H => tv σ H fun y H1 => ta σ H1 fun x H2 => ∃ a dx fs, x = .ref a ∧ H2 a = some (.ins C dx fs) ∧ fs.length < 1000 ∧ D.nx σ (upd H2 a (.ins C dx (putF f y fs)))
section
variable {X : Cx} {C : Addr} {e o value : Expr} {f : Str} {ta tv : TE} {pos pos' : Pos} {v : V}
theorem pe_fldI (c : Cls X.K C) (n : NoAttr X.K C f) (he : PE X e ta) (hb : attributeBase e f X.env (eval e X.env) = eval e X.env := by rfl) : PE X (.Attribute e f pos) (tFldI C f ta) := by
  refine ⟨fun pins s σ H Q I h => ?_⟩
  refine attr_of hb (thn (he.run pins s σ H _ I h) fun u s1 hh => ?_)
  obtain ⟨x, H1, I1, rx, a, dx, fs, v, rfl, ea, l, q⟩ := hh
  obtain rfl : u = Value.ref a := rx
  exact getattr_ok I1 ea c n l fun u' s2 I2 ru => ⟨v, H1, I2, ru, q⟩
theorem pe_conI (c : Cls X.K C) (n : ∃ u, Con X.K C f v u) (he : PE X e ta) (hb : attributeBase e f X.env (eval e X.env) = eval e X.env := by rfl) : PE X (.Attribute e f pos) (tConI C f v ta) := by
  refine ⟨fun pins s σ H Q I h => ?_⟩
  obtain ⟨u0, k⟩ := n
  refine attr_of hb (thn (he.run pins s σ H _ I h) fun u s1 hh => ?_)
  obtain ⟨x, H1, I1, rx, a, dx, fs, rfl, ea, l, q⟩ := hh
  obtain rfl : u = Value.ref a := rx
  exact getcon_ok I1 ea c k l fun s2 I2 => ⟨v, H1, I2, k.rel, q⟩
theorem ps_fldI (c : Cls X.K C) (n : NoAttr X.K C f) (ha : PE X o ta) (hv : PE X value tv) (hs : swapsWith value (some (.Attribute o f pos')) pos.line X.env = pure false) : PS X (.Assign [.Attribute o f pos'] value pos) (sFldI C f ta tv) := by
  refine ⟨fun pins s σ H D I h => ?_⟩
  refine plainObj_wpAny_Assign_Attribute (thn (hv.run pins s σ H _ I h) fun u s1 hh => ?_) hs
  obtain ⟨y, H1, I1, ry, q⟩ := hh
  refine thn (ha.run pins s1 σ H1 _ I1 q) fun ov s2 hh => ?_
  obtain ⟨x, H2, I2, rx, a, dx, fs, rfl, ea, l, q2⟩ := hh
  obtain rfl : ov = Value.ref a := rx
  exact setattr_ok I2 ea c n l ry fun s3 I3 => ⟨σ, _, I3, q2⟩
end
/-! ### facts of the written part -/
section
variable {K : PySem.W.Frag} {C : Addr} {f m : Str}
def fndB (K : PySem.W.Frag) (C : Addr) (m : Str) : Bool := He.eqO (PySem.W.findIn K (.ref C) m) (some (some (.ref (He.ma K C m)))) && PySem.W.isFn K (.ref (He.ma K C m))
theorem fnd1 (h : fndB K C m = true) : PySem.W.findIn K (.ref C) m = some (some (.ref (He.ma K C m))) := He.eqO_ok (He.ba h).1
theorem fnd2 (h : fndB K C m = true) : PySem.W.isFn K (.ref (He.ma K C m)) = true := (He.ba h).2
/-- the getter of a property -/
def getter (K : PySem.W.Frag) (C : Addr) (f : Str) : Addr := match PySem.W.recIn K (He.ma K C f) "property" with
  | some (.ref g :: _) => g
  | _ => 0
def propB (K : PySem.W.Frag) (C : Addr) (f : Str) : Bool := He.eqO (PySem.W.findIn K (.ref C) f) (some (some (.ref (He.ma K C f)))) && (He.eqO (PySem.W.specialIn K (.ref (He.ma K C f)) "__get__") (some (some (.builtin "property.__get__"))) &&
  (decide (PySem.W.takesIn K (.ref (He.ma K C f)) = some true) && (match PySem.W.recIn K (He.ma K C f) "property" with
    | some (.ref _ :: _) => true
    | _ => false)))
theorem propB_ok (h : propB K C f = true) : PropOf K C f (He.ma K C f) (getter K C f) := by
  obtain ⟨h1, h⟩ := He.ba h
  obtain ⟨h2, h⟩ := He.ba h
  obtain ⟨h3, h4⟩ := He.ba h
  refine ⟨He.eqO_ok h1, He.eqO_ok h2, of_decide_eq_true h3, ?_⟩
  unfold getter
  split at h4
  · rename_i g rest e
    rw [e]
    exact ⟨rest, rfl⟩
  · cases h4
def conB (K : PySem.W.Frag) (C : Addr) (f : Str) (v : Int) : Bool := (match PySem.W.findIn K (.ref C) f with
  | some (some (.int j t)) => decide (j = v) && He.eqO (PySem.W.specialIn K (.int j t) "__get__") (some none)
  | _ => false) && !PySem.W.copiedNames.contains f
theorem conB_ok {v : Int} (h : conB K C f v = true) : ∃ u, Con K C f (.int v) u := by
  obtain ⟨h1, h2⟩ := He.ba h
  split at h1
  · rename_i j t e
    obtain ⟨h1, h3⟩ := He.ba h1
    cases of_decide_eq_true h1
    refine ⟨_, e, ⟨t, rfl⟩, ?_, by simpa using h2⟩
    have := He.eqO_ok h3
    exact this
  · cases h1
def excCB (K : PySem.W.Frag) (D : Addr) : Bool := He.eqO (PySem.W.findIn K (.ref D) "__getattribute__") (some (some (.builtin "BaseException.__getattribute__"))) && (He.eqO (PySem.W.findIn K (.ref D) "__getattr__") (some none) &&
  (decide (PySem.W.subIn K (.ref D) (.type "BaseException") = some true) && (PySem.W.hasDictIn K D && (He.eqO (PySem.W.findIn K (.ref D) "__class__") (some (some (.builtin "object.__class__"))) &&
  (He.eqO (PySem.W.specialIn K (.builtin "object.__class__") "__get__") (some (some (.builtin "getset_descriptor.__get__"))) && (decide (PySem.W.takesIn K (.builtin "object.__class__") = some true) && decide (PySem.W.mroIn K D (.type "object") = some true)))))))
theorem excCB_ok {D : Addr} (h : excCB K D = true) : ExcC K D := by
  obtain ⟨h1, h⟩ := He.ba h
  obtain ⟨h2, h⟩ := He.ba h
  obtain ⟨h3, h⟩ := He.ba h
  obtain ⟨h4, h⟩ := He.ba h
  obtain ⟨h5, h⟩ := He.ba h
  obtain ⟨h6, h⟩ := He.ba h
  obtain ⟨h7, h8⟩ := He.ba h
  exact ⟨He.eqO_ok h1, He.eqO_ok h2, of_decide_eq_true h3, h4, He.eqO_ok h5, He.eqO_ok h6, of_decide_eq_true h7, of_decide_eq_true h8⟩
end
/-- isinstance(e, c) in a suite: what the clause's class is, is known behind the raise alone -/
def rIsXx (K : PySem.W.Frag) (cls : Value) (a : Addr) (dx : Option Addr) : List V → Hp → VK → Prop := fun xs H Q => ∃ D, cls = .ref D ∧ excCB K D = true ∧ (∀ d, dx = some d → ∃ fs, H d = some (.xd fs)) ∧ rIsE K D a xs H Q
theorem call_isXx {X : Cx} {a : Addr} {oe : Obj} {cls : Value} {dx : Option Addr} {pn : List (Addr × Obj)} (hz : Zc cls dx oe) (hf : ∃ vs, oe.data = .fields vs) :
    CallR (X.suite a ((a, oe) :: pn)) (.builtin "isinstance") (rIsXx X.K cls a dx) := by
  intro pins s σ H xs us Q I r h
  obtain ⟨D, rfl, c, q⟩ := h
  exact call_isX (excCB_ok c) hz hf pins s σ H xs us Q I r q
/-- a module's constant -/
theorem pe_gint {X : Cx} {x : Str} {v : Int} {pos : Pos} (hg : Gl X x) (hm : ∃ t, X.mg x = some (.int v t)) (hdb : (x == ("__debug__" : Str)) = false := by decide) : PE X (.Name x pos) (tC (.int v)) := by
  refine ⟨fun pins s σ H Q I h => ?_⟩
  obtain ⟨t, hm⟩ := hm
  exact ld_glob I hg hm ⟨.int v, H, I, ⟨t, rfl⟩, h⟩ hdb
theorem pe_gstr {X : Cx} {x v : Str} {pos : Pos} (hg : Gl X x) (hm : ∃ t, X.mg x = some (.str v t)) (hdb : (x == ("__debug__" : Str)) = false := by decide) : PE X (.Name x pos) (tC (.str v)) := by
  refine ⟨fun pins s σ H Q I h => ?_⟩
  obtain ⟨t, hm⟩ := hm
  exact ld_glob I hg hm ⟨.str v, H, I, ⟨t, rfl⟩, h⟩ hdb
/-- two readings of one expression: either -/
theorem pe_alt {X : Cx} {e : Expr} {t t' : TE} (h : PE X e t) (h' : PE X e t') : PE X e (fun σ H Q => t σ H Q ∨ t' σ H Q) := ⟨fun pins s σ H Q I z => z.elim (h.run pins s σ H Q I) (h'.run pins s σ H Q I)⟩
/-! ### what is known of the program that stands -/
structure Tx (fl : List (PySem.W.Frag → Bool)) (fn : List DX) (P : Program) (w : World) (K : PySem.W.Frag) (mg : Str → Option Value) (base : Heap) : Prop where
  ki : K.In base
  ns : base.Ns mainGlobals mg
  says : SaysX (fun K => fl.all fun f => f K) fn K
section
variable {fl : List (PySem.W.Frag → Bool)} {fn : List DX} {P : Program} {w : World} {K : PySem.W.Frag} {mg : Str → Option Value} {base : Heap}
theorem Tx.fa (T : Tx fl fn P w K mg base) (i : Nat) {f : PySem.W.Frag → Bool} (h : fl[i]? = some f) : f K = true := List.all_eq_true.mp T.says.facts f (List.mem_of_getElem? h)
theorem Tx.glo (T : Tx fl fn P w K mg base) (x : Str) (h : (He.Fa.glo x).ok K = true) : mg x = some (.ref (He.ga K x)) := He.glo_ok T.ki T.ns h
theorem Tx.free (T : Tx fl fn P w K mg base) (x : Str) (h : (He.Fa.free x).ok K = true) : mg x = none := He.free_ok T.ki T.ns h
theorem Tx.intc (T : Tx fl fn P w K mg base) (x : Str) (v : Int) (h : (He.Fa.int x v).ok K = true) : ∃ t, mg x = some (.int v t) := He.int_ok T.ki T.ns h
theorem Tx.strc (T : Tx fl fn P w K mg base) (x v : Str) (h : (He.Fa.str x v).ok K = true) : ∃ t, mg x = some (.str v t) := He.str_ok T.ki T.ns h
theorem Tx.df (T : Tx fl fn P w K mg base) (i : Nat) {d : DX} (h : fn[i]? = some d) (hc : d.cl = [] := by rfl) : ∃ fd, FnX K d fd := T.says.def_ i h hc
end
/-! ### a def keeps its promise -/
def OkF (P : Program) (w : World) (K : PySem.W.Frag) (mg : Str → Option Value) (base : Heap) (k : Nat) (f : Addr) (sp : Sp) : Prop :=
  ∃ (fd : FuncData) (ps : List Str), FnOk P w K mg base (L2.CX P w) k f fd ps sp ∧ Binds K fd ps []
section
variable {P : Program} {w : World} {K : PySem.W.Frag} {mg : Str → Option Value} {base : Heap}
theorem okf_of {d : DX} {N ps : List Str} {k : Nat} {sp : Sp} {t : XK → TS} (h : ∃ fd, FnX K d fd) (S : FnScope N ps (defScope d.st)) (len : ∀ vs H Q E, sp vs H Q E → vs.length = ps.length)
    (bind : ∀ (kV doc pm : Value) (an : Option Addr) (cdv ct : Value) (us : List Value), us.length = ps.length → bindArgs (PySem.W.fnOf d.nm d.qn (defArgs d.st) (defBody d.st) (defScope d.st) .none kV doc pm an cdv ct) ⟨us, []⟩ = pure (ps.zip us))
    (walk : ∀ (cdv : Value) (A : Around) (outer : List Env) (s : Shared) (H : Hp) (E : XK), N.Nodup → Takes (cxOf (L2.CX P w) P w K mg base N d.qn (defScope d.st) (d.pl K) cdv A outer s H E) (wE E) →
      Room k (A.deeper (envOfC d.qn (defScope d.st) s.heap.objs.size (d.pl K) cdv)) → PSs (cxOf (L2.CX P w) P w K mg base N d.qn (defScope d.st) (d.pl K) cdv A outer s H E) (defBody d.st) (t E))
    (pure_ : ∀ vs H Q E, sp vs H Q E → t E { nx := fun _ H' => Q .non H', rt := Q } (start N vs) H) : OkF P w K mg base (k + 1) (d.pl K) sp := by
  obtain ⟨fd, F⟩ := h
  exact ⟨fd, ps, F.okX S len fun cdv A outer s H vs Q E hr hsp => ⟨t E, walk cdv A outer s H E S.nd (takes_of rfl rfl rfl rfl) hr, pure_ vs H Q E hsp⟩, F.binds bind⟩
theorem OkF.imp {k : Nat} {f : Addr} {sp sp' : Sp} (F : OkF P w K mg base k f sp) (h : ∀ vs H Q E, sp' vs H Q E → sp vs H Q E) : OkF P w K mg base k f sp' := by
  obtain ⟨fd, ps, G, B⟩ := F
  exact ⟨fd, ps, G.imp h, B⟩
theorem OkF.mono {j k : Nat} {f : Addr} {sp : Sp} (F : OkF P w K mg base j f sp) (h : j ≤ k) : OkF P w K mg base k f sp := by
  obtain ⟨fd, ps, G, B⟩ := F
  exact ⟨fd, ps, G.mono h, B⟩
end
end Bw
namespace Bw
open PySem PySem.Spec PyProof.Rows L2
theorem rInt1_int {i : Int} {H : Hp} {Q : VK} : rInt1 [V.int i] H Q = Q (.int i) H := by
  refine propext ⟨fun h => ?_, fun h => .inl ⟨i, rfl, h⟩⟩
  rcases h with ⟨j, e, q⟩ | ⟨k, e, q⟩
  · cases e; exact q
  · cases e
end Bw
namespace Bw
open PySem PySem.Spec PyProof.Rows L2
section
variable {P : Program} {w : World} {K : PySem.W.Frag} {mg : Str → Option Value} {base : Heap}
/-- as okf_of, of a function object at hand -/
theorem okf_at {d : DX} {N ps : List Str} {k : Nat} {sp : Sp} {t : XK → TS} {fd : FuncData} (F : FnX K d fd) (S : FnScope N ps (defScope d.st)) (len : ∀ vs H Q E, sp vs H Q E → vs.length = ps.length)
    (walk : ∀ (cdv : Value) (A : Around) (outer : List Env) (s : Shared) (H : Hp) (E : XK), N.Nodup → Takes (cxOf (L2.CX P w) P w K mg base N d.qn (defScope d.st) (d.pl K) cdv A outer s H E) (wE E) →
      Room k (A.deeper (envOfC d.qn (defScope d.st) s.heap.objs.size (d.pl K) cdv)) → PSs (cxOf (L2.CX P w) P w K mg base N d.qn (defScope d.st) (d.pl K) cdv A outer s H E) (defBody d.st) (t E))
    (pure_ : ∀ vs H Q E, sp vs H Q E → t E { nx := fun _ H' => Q .non H', rt := Q } (start N vs) H) : FnOk P w K mg base (L2.CX P w) (k + 1) (d.pl K) fd ps sp :=
  F.okX S len fun cdv A outer s H vs Q E hr hsp => ⟨t E, walk cdv A outer s H E S.nd (takes_of rfl rfl rfl rfl) hr, pure_ vs H Q E hsp⟩
/-- a def that lets nothing out, whatever is wished of an exception -/
theorem fn0 {k : Nat} {f : Addr} {fd : FuncData} {ps : List Str} {sp : Sp} (F : FnOk P w K mg base (L2.CX P w) k f fd ps sp) (h : ∀ vs H Q E, sp vs H Q E → sp vs H Q L2.E0) : FnOk P w K mg base L2.CX0 k f fd ps sp :=
  ⟨F.len, fun A outer s H args us vs Q E hr e0 b v hs => codeAny_mono (F.run A outer s H args us vs Q L2.E0 hr e0 b v (h _ _ _ _ hs)) fun r s' q => by
    cases r with
    | ok fl => cases fl <;> exact q
    | error e => obtain ⟨_, _, _, _, _, _, _, _, _, _, _, _, z⟩ := q; exact z.elim⟩
end
end Bw

namespace Bw
open PySem PySem.Spec PyProof.Rows L2
/-! ### an own error's __init__ as it stands in the written part -/
def cellB (K : PySem.W.Frag) (a C : Addr) (file : Str) : Bool := match K.lookup a with
  | some o => (match o.data with
    | .func fd => (match fd.closure with
      | [(_, cc)] => (match K.lookup cc with
        | some oc => (match oc.data with
          | .cell (some (.ref c)) => decide (c = C)
          | _ => false)
        | none => false)
      | _ => false) && (match fd.code with
      | .ref cda => (match K.lookup cda with
        | some oc => (match oc.data with
          | .fields vs => (match (vs[2]? : Option Value) with
            | some (.str f _) => file == f
            | _ => false)
          | _ => false)
        | none => false)
      | _ => false)
    | _ => false)
  | none => false
theorem exT_of {P : Program} {K : PySem.W.Frag} {d : DX} {C : Addr} {file : Str} (hc : d.cl = [("__class__" : Str)]) (hs : seenAt K (d.pl K) = d.val ∧ codeOkAt K (d.pl K) d.qn = true) (hb : cellB K (d.pl K) C file = true) (hf : P.main.file = file) (ht : (P.main.scope.names.lookup ("super" : Str)).isSome = false) :
    ∃ cda cc, BwM.ExT K P C (d.pl K) d.nm d.qn d.st cda cc := by
  obtain ⟨h1, h2⟩ := hs
  obtain ⟨kp, c⟩ := He.ba h2
  unfold seenAt at h1
  unfold cellB at hb
  cases e : K.lookup (d.pl K) with
  | none => rw [e] at c; cases c
  | some o =>
    obtain ⟨oc, od, dt, osl⟩ := o
    rw [e] at c h1 hb
    cases dt with
    | func fd =>
      obtain ⟨n1, n2, n3, n4, n5, n6, n7, n8, n9, n10, n11, n12, n13, n14, n15⟩ := fd
      simp only [DX.val, Option.some.injEq, Prod.mk.injEq] at h1
      obtain ⟨h1, h2, h3, h4, h5, h6, h7, h8⟩ := h1
      rw [hc] at h7
      obtain ⟨b1, b2⟩ := He.ba hb
      obtain ⟨k1, k2⟩ := He.ba c
      subst h1 h2 h3 h4 h5 h6 h8
      cases n8 with
      | none =>
        dsimp only at b1 b2 h7 k1
        cases n7 with
        | nil => cases b1
        | cons q r =>
          obtain ⟨qn, cc⟩ := q
          cases r with
          | cons _ _ => cases b1
          | nil =>
            cases List.head_eq_of_cons_eq h7
            dsimp only at b1 b2
            cases n13 with
            | ref cda =>
              dsimp only at b2
              refine ⟨cda, cc, ⟨oc, od, osl, n9, n10, n11, n12, n14, e⟩, k1, ?_, ?_, ht⟩
              · cases e2 : K.lookup cda with
                | none => rw [e2] at b2; cases b2
                | some o2 =>
                  obtain ⟨oc2, od2, dt2, osl2⟩ := o2
                  rw [e2] at b2
                  cases dt2 with
                  | fields vs =>
                    dsimp only at b2
                    cases e3 : vs[2]? with
                    | none => rw [e3] at b2; cases b2
                    | some v =>
                      rw [e3] at b2
                      cases v with
                      | str f t => exact ⟨_, _, _, _, f, t, rfl, e3, by rw [hf]; exact b2⟩
                      | _ => cases b2
                  | _ => cases b2
              · cases e2 : K.lookup cc with
                | none => rw [e2] at b1; cases b1
                | some o2 =>
                  obtain ⟨oc2, od2, dt2, osl2⟩ := o2
                  rw [e2] at b1
                  cases dt2 with
                  | cell v =>
                    cases v with
                    | none => cases b1
                    | some v =>
                      cases v with
                      | ref c =>
                        cases of_decide_eq_true b1
                        exact ⟨_, _, _, rfl⟩
                      | _ => cases b1
                  | _ => cases b1
            | _ => cases b2
      | _ => cases k2
    | _ => cases c
def exfB (K : PySem.W.Frag) (C fI : Addr) : Bool := PySem.W.excInitIn K C He.veBase "ValueError.__new__" && ((match PySem.W.clsIn K C with
    | some cd => PySem.HandSPX.refsVE cd.mro && cd.hasDict
    | none => false) && (He.eqO (PySem.W.findIn K (.ref C) "__setattr__") (some (some (.builtin "object.__setattr__"))) && (He.eqO (PySem.W.findIn K (.ref C) "__init__") (some (some (.ref fI))) &&
  (decide (PySem.W.typeIn K (.ref fI) = some (.type "function")) && (He.eqO (PySem.W.ks_superIn K C C "__init__") (some (some (.builtin "ValueError.__init__"))) && (decide (PySem.W.subIn K (.ref C) (.type "ValueError") = some true) &&
  (decide (PySem.W.mroIn K C (.ref C) = some true) && (He.eqO (PySem.W.nsIn K cStatics "thirdparty.any") (some none) && (decide (PySem.W.subIn K (.ref C) (.type "BaseException") = some true) && (decide (PySem.W.typeIn K (.ref C) = some (.type "type")) && PySem.W.keepIn K (.ref C)))))))))))
theorem exf_ok {K : PySem.W.Frag} {C fI : Addr} (h : exfB K C fI = true) : BwM.ExF K C fI ∧ PySem.W.subIn K (.ref C) (.type "BaseException") = some true ∧ PySem.W.typeIn K (.ref C) = some (.type "type") ∧ PySem.W.keepIn K (.ref C) = true := by
  obtain ⟨h1, h⟩ := He.ba h
  obtain ⟨h2, h⟩ := He.ba h
  obtain ⟨h3, h⟩ := He.ba h
  obtain ⟨h4, h⟩ := He.ba h
  obtain ⟨h5, h⟩ := He.ba h
  obtain ⟨h6, h⟩ := He.ba h
  obtain ⟨h7, h⟩ := He.ba h
  obtain ⟨h8, h⟩ := He.ba h
  obtain ⟨h9, h⟩ := He.ba h
  obtain ⟨ha, h⟩ := He.ba h
  obtain ⟨hb, hk⟩ := He.ba h
  refine ⟨⟨h1, ?_, He.eqO_ok h3, He.eqO_ok h4, of_decide_eq_true h5, He.eqO_ok h6, of_decide_eq_true h7, of_decide_eq_true h8, He.eqO_ok h9⟩, of_decide_eq_true ha, of_decide_eq_true hb, hk⟩
  split at h2
  · rename_i cd e
    obtain ⟨x, y⟩ := He.ba h2
    exact ⟨cd, e, x, y⟩
  · cases h2
section
variable {fl : List (PySem.W.Frag → Bool)} {fn : List DX} {P : Program} {w : World} {K : PySem.W.Frag} {mg : Str → Option Value} {base : Heap} {C : Addr} {file nm : Str} {d : DX}
theorem exk1 {y f : Str} (T : Tx fl fn P w K mg base) (i : Nat) (h : fn[i]? = some d) (hc : d.cl = [("__class__" : Str)]) (hcell : cellB K (d.pl K) C file = true) (hx : exfB K C (d.pl K) = true) (hsup : (He.Fa.free "super").ok K = true) (hg : mg nm = some (.ref C))
    (hn : PySem.W.findIn K (.ref C) f = some none) (hf : P.main.file = file) (ht : (P.main.scope.names.lookup ("super" : Str)).isSome = false) (S : BwM.Txt1 d.st y f) : ExK P w K mg C (d.pl K) nm ok1 (fs1 f) := by
  obtain ⟨cda, cc, E⟩ := exT_of (P := P) hc (T.says.seen i h) hcell hf ht
  obtain ⟨h1, h2, h3, h4⟩ := exf_ok hx
  exact ⟨h1, T.free "super" hsup, h2, h3, h4, hg, fun vs ok => by obtain ⟨v, rfl⟩ := ok; show 1 ≤ 1000; decide, fun vs us ok r => run1 h1 E S hn vs us ok r⟩
theorem exk2 {y f y2 f2 : Str} (T : Tx fl fn P w K mg base) (i : Nat) (h : fn[i]? = some d) (hc : d.cl = [("__class__" : Str)]) (hcell : cellB K (d.pl K) C file = true) (hx : exfB K C (d.pl K) = true) (hsup : (He.Fa.free "super").ok K = true) (hg : mg nm = some (.ref C))
    (hn : PySem.W.findIn K (.ref C) f = some none) (hn2 : PySem.W.findIn K (.ref C) f2 = some none) (hf : P.main.file = file) (ht : (P.main.scope.names.lookup ("super" : Str)).isSome = false) (S : BwM.Txt2 d.st y f y2 f2) : ExK P w K mg C (d.pl K) nm ok2 (fs2 f f2) := by
  obtain ⟨cda, cc, E⟩ := exT_of (P := P) hc (T.says.seen i h) hcell hf ht
  obtain ⟨h1, h2, h3, h4⟩ := exf_ok hx
  exact ⟨h1, T.free "super" hsup, h2, h3, h4, hg, fun vs ok => by obtain ⟨z, v, rfl, _⟩ := ok; show 2 ≤ 1000; decide, fun vs us ok r => run2 h1 E S hn hn2 vs us ok r⟩
end
end Bw

namespace Bw
open PySem PySem.Spec PyProof.Rows L2
/-! ### heaps that grow -/
def Ext (H H' : Hp) : Prop := ∀ a o, H a = some o → H' a = some o
theorem Ext.refl (H : Hp) : Ext H H := fun _ _ h => h
theorem Ext.trans {H H1 H2 : Hp} (a : Ext H H1) (b : Ext H1 H2) : Ext H H2 := fun c o h => b c o (a c o h)
section
variable {K : PySem.W.Frag} {H H1 H2 : Hp} {a p : Addr} {xs : List V} {o : HO}
theorem ext_set (x : Ext H H1) (h : H p = none) : Ext H (upd H1 p o) := fun b u e => by rw [upd_ne (ne_of_none e h)]; exact x b u e
theorem ext_new (h : H p = none) : Ext H (upd H p o) := ext_set (fun _ _ z => z) h
theorem sqL_ext (x : Ext H H1) (h : SqL K H a xs) : SqL K H1 a xs := by
  rcases h with (h | ⟨o, h⟩) | h
  · exact .inl (.inl (x _ _ h))
  · exact .inl (.inr ⟨o, x _ _ h⟩)
  · exact .inr h
theorem sqT_ext (x : Ext H H1) (h : SqT K H a xs) : SqT K H1 a xs := by
  rcases h with (h | ⟨o, h⟩) | h
  · exact .inl (.inl (x _ _ h))
  · exact .inl (.inr ⟨o, x _ _ h⟩)
  · exact .inr h
theorem sqL_of (h : H a = some (.lst xs)) : SqL K H a xs := .inl (.inl h)
theorem sqT_of (h : H a = some (.tup xs)) : SqT K H a xs := .inl (.inl h)
theorem fr_of (x : Ext H H1) (h : H1 p = none) : H p = none := by
  cases e : H p with
  | none => rfl
  | some o => rw [x _ _ e] at h; cases h
end
/-! ### what an iterator gives -/
def SrcAt (J : It) (xs : List V) (H : Hp) : Prop := ∀ i, (∀ x, xs[i]? = some x → J.go i H ∧ ∀ y H', J.yld i H y H' → H' = H ∧ y = x) ∧ (xs.length ≤ i → J.stop i H)
section
variable {K : PySem.W.Frag} {H H1 : Hp} {a : Addr} {xs : List V}
theorem src_list (h : SqL K H a xs) : SrcAt (Itl K a) xs H := fun i => ⟨fun x e => ⟨⟨xs, x, h, e⟩, fun y H' q => ⟨q.1, Option.some.inj ((q.2 xs h).symm.trans e)⟩⟩, fun l => ⟨xs, h, l⟩⟩
theorem src_tup (h : SqT K H a xs) : SrcAt (Itt K a) xs H := fun i => ⟨fun x e => ⟨⟨xs, x, h, e⟩, fun y H' q => ⟨q.1, Option.some.inj ((q.2 xs h).symm.trans e)⟩⟩, fun l => ⟨xs, h, l⟩⟩
def rngV (lo : Int) (n : Nat) : List V := (List.range n).map fun i => V.int (lo + (i : Nat))
theorem rngV_get {lo : Int} {n i : Nat} : (rngV lo n)[i]? = if i < n then some (V.int (lo + (i : Nat))) else none := by
  unfold rngV
  by_cases h : i < n
  · rw [if_pos h, List.getElem?_map, List.getElem?_range h]
    rfl
  · rw [if_neg h, List.getElem?_eq_none (by simp; omega)]
theorem rngV_len {lo : Int} {n : Nat} : (rngV lo n).length = n := by simp [rngV]
theorem src_rng {lo : Int} {n : Nat} : SrcAt (Itr lo n) (rngV lo n) H := by
  intro i
  refine ⟨fun x e => ?_, fun l => by rw [rngV_len] at l; exact l⟩
  rw [rngV_get] at e
  by_cases h : i < n
  · rw [if_pos h] at e
    cases e
    exact ⟨h, fun y H' q => ⟨q.1, q.2⟩⟩
  · rw [if_neg h] at e
    cases e
end
/-! ### for -/
theorem forS {J : It} {xs : List V} {g : TG} {tb : TS} {D : Ends} {σ : L2.St} {H : Hp} (Pv : Nat → L2.St → Hp → Prop) (h0 : Pv 0 σ H) (hl : ∀ i σ H, i ≤ xs.length → Pv i σ H → SrcAt J xs H)
    (hs : ∀ i x σ H, xs[i]? = some x → Pv i σ H → g x σ H fun σ2 H2 => tb { D with nx := Pv (i + 1), ct := Pv (i + 1), bk := D.nx } σ2 H2) (hd : ∀ σ H, Pv xs.length σ H → D.nx σ H) :
    ∃ W : Nat → Nat → L2.St → Hp → Prop, (∃ m, W 0 m σ H) ∧ ∀ i m σ H, W i m σ H →
      (J.stop i H ∧ D.nx σ H) ∨ (J.go i H ∧ ∃ N : L2.St → Hp → Prop, (∀ σ' H', N σ' H' → ∃ m', m' < m ∧ W (i + 1) m' σ' H') ∧ ∀ x H', J.yld i H x H' → g x σ H' fun σ2 H2 => tb { D with nx := N, ct := N, bk := D.nx } σ2 H2) := by
  refine ⟨fun i m σ H => m = xs.length - i ∧ i ≤ xs.length ∧ Pv i σ H, ⟨xs.length, by simp, Nat.zero_le _, h0⟩, ?_⟩
  rintro i m σ H ⟨rfl, hi, p⟩
  have q := hl i σ H hi p i
  by_cases hlt : i < xs.length
  · have e : xs[i]? = some xs[i] := List.getElem?_eq_getElem hlt
    obtain ⟨q1, q2⟩ := q.1 _ e
    refine .inr ⟨q1, Pv (i + 1), fun σ' H' p' => ⟨xs.length - (i + 1), by omega, rfl, hlt, p'⟩, fun x H' y => ?_⟩
    obtain ⟨e1, e2⟩ := q2 x H' y
    subst e1 e2
    exact hs i _ σ _ e p
  · have e : i = xs.length := by omega
    subst e
    exact .inl ⟨q.2 (Nat.le_refl _), hd _ _ p⟩
/-! ### comprehensions -/
theorem lcS {J : It} {xs : List V} {g : TG} {tt : TT} {te : TE} {vs : List Nat} {σ : L2.St} {H1 : Hp} {D : Addr} {Qd : Hp → Prop} (Pv : Nat → Hp → Prop) (h0 : Pv 0 (upd H1 D (.lst []))) (hl : ∀ i H, i ≤ xs.length → Pv i H → SrcAt J xs H)
    (hs : ∀ i x H, xs[i]? = some x → Pv i H → g x (wipe σ vs) H fun σ2 H2 => wipe σ2 vs = wipe σ vs ∧ tt σ2 H2 fun b H3 =>
      if b = true then te σ2 H3 fun y H4 => ∃ acc, H4 D = some (.lst acc) ∧ acc.length < sizeLine ∧ Pv (i + 1) (upd H4 D (.lst (acc ++ [y]))) else Pv (i + 1) H3) (hd : ∀ H, Pv xs.length H → Qd H) :
    ∃ W : Nat → Nat → Hp → Prop, (∃ m, W 0 m (upd H1 D (.lst []))) ∧ ∀ i m H, W i m H →
      (J.stop i H ∧ Qd H) ∨ (J.go i H ∧ ∃ Nx : Hp → Prop, (∀ H', Nx H' → ∃ m', m' < m ∧ W (i + 1) m' H') ∧ ∀ x H', J.yld i H x H' → g x (wipe σ vs) H' fun σ2 H2 => wipe σ2 vs = wipe σ vs ∧ tt σ2 H2 fun b H3 =>
        if b = true then te σ2 H3 fun y H4 => ∃ acc, H4 D = some (.lst acc) ∧ acc.length < sizeLine ∧ Nx (upd H4 D (.lst (acc ++ [y]))) else Nx H3) := by
  refine ⟨fun i m H => m = xs.length - i ∧ i ≤ xs.length ∧ Pv i H, ⟨xs.length, by simp, Nat.zero_le _, h0⟩, ?_⟩
  rintro i m H ⟨rfl, hi, p⟩
  have q := hl i H hi p i
  by_cases hlt : i < xs.length
  · have e : xs[i]? = some xs[i] := List.getElem?_eq_getElem hlt
    obtain ⟨q1, q2⟩ := q.1 _ e
    refine .inr ⟨q1, Pv (i + 1), fun H' p' => ⟨xs.length - (i + 1), by omega, rfl, hlt, p'⟩, fun x H' y => ?_⟩
    obtain ⟨e1, e2⟩ := q2 x H' y
    subst e1 e2
    exact hs i _ _ e p
  · have e : i = xs.length := by omega
    subst e
    exact .inl ⟨q.2 (Nat.le_refl _), hd _ p⟩
theorem fm_len {α β : Type} (f : α → Option β) : ∀ xs : List α, (xs.filterMap f).length ≤ xs.length := fun xs => List.length_filterMap_le f xs
theorem take_get {α β : Type} {f : α → Option β} {xs : List α} {i : Nat} {x : α} (e : xs[i]? = some x) : (xs.take (i + 1)).filterMap f = (xs.take i).filterMap f ++ (match f x with | some y => [y] | none => []) := by
  rw [List.take_add_one, e]
  simp only [Option.toList, List.filterMap_append, List.filterMap_cons, List.filterMap_nil]
  cases f x <;> rfl
/-- elements that change nothing: the list of the values -/
theorem lcF {J : It} {xs : List V} {i0 : Nat} {tt : TT} {te : TE} {σ : L2.St} {H1 : Hp} {D : Addr} {Qd : Hp → Prop} (f : V → Option V) (hD : H1 D = none) (S : ∀ H, Ext H1 H → SrcAt J xs H) (hn : xs.length ≤ sizeLine)
    (step : ∀ x ∈ xs, ∀ H, Ext H1 H → ∀ (R : V → Hp → Prop) (N : Hp → Prop), (∀ y, f x = some y → R y H) → (f x = none → N H) → tt ((wipe σ [i0]).set i0 (some x)) H (fun b H3 => if b = true then te ((wipe σ [i0]).set i0 (some x)) H3 R else N H3))
    (hd : Qd (upd H1 D (.lst (xs.filterMap f)))) :
    ∃ W : Nat → Nat → Hp → Prop, (∃ m, W 0 m (upd H1 D (.lst []))) ∧ ∀ i m H, W i m H →
      (J.stop i H ∧ Qd H) ∨ (J.go i H ∧ ∃ Nx : Hp → Prop, (∀ H', Nx H' → ∃ m', m' < m ∧ W (i + 1) m' H') ∧ ∀ x H', J.yld i H x H' → gName i0 x (wipe σ [i0]) H' fun σ2 H2 => wipe σ2 [i0] = wipe σ [i0] ∧ tt σ2 H2 fun b H3 =>
        if b = true then te σ2 H3 fun y H4 => ∃ acc, H4 D = some (.lst acc) ∧ acc.length < sizeLine ∧ Nx (upd H4 D (.lst (acc ++ [y]))) else Nx H3) := by
  refine lcS (fun i H => H = upd H1 D (.lst ((xs.take i).filterMap f))) (by simp) (fun i H _ e => by rw [e]; exact S _ (ext_new hD)) (fun i x H e p => ?_) (fun H e => by rw [e, List.take_length]; exact hd)
  subst p
  refine ⟨by simp [wipe], step x (List.mem_of_getElem? e) _ (ext_new hD) _ _ (fun y hy => ?_) (fun hy => ?_)⟩
  · refine ⟨_, upd_same, ?_, ?_⟩
    · refine Nat.lt_of_le_of_lt (fm_len f _) ?_
      have := (List.getElem?_eq_some_iff.mp e).1
      rw [List.length_take]
      omega
    · rw [upd_upd, take_get e, hy]
  · rw [take_get e, hy, List.append_nil]
theorem fl_len {α β : Type} {F : α → List β} {b : Nat} : ∀ {xs : List α}, (∀ x ∈ xs, (F x).length ≤ b) → (xs.flatMap F).length ≤ xs.length * b
  | [], _ => by simp
  | x :: r, h => by
    rw [List.flatMap_cons, List.length_append, List.length_cons, Nat.add_mul]
    have := h x List.mem_cons_self
    have := fl_len (F := F) (xs := r) fun y hy => h y (List.mem_cons_of_mem _ hy)
    omega
theorem wipe2 {σ : L2.St} {i0 i1 : Nat} {x y : Option V} (ne : i0 ≠ i1) : wipe ((wipe σ [i0, i1]).set i0 x) [i0, i1] = wipe σ [i0, i1] := by
  show ((((σ.set i1 none).set i0 none).set i0 x).set i1 none).set i0 none = (σ.set i1 none).set i0 none
  rw [List.set_set, List.set_comm (i := i0) (j := i1) _ _ ne, List.set_set, List.set_set]
/-- two sources; the elements change nothing -/
theorem lc2F {J : It} {xs : List V} {i0 i1 : Nat} {wi1 : TI} {tt1 : TT} {te : TE} {σ : L2.St} {H1 : Hp} {D : Addr} {Qd : Hp → Prop} {b : Nat} (ne : i0 ≠ i1) (ys : V → List V) (f : V → V → Option V) (hD : H1 D = none) (S : ∀ H, Ext H1 H → SrcAt J xs H)
    (hb : ∀ x ∈ xs, (ys x).length ≤ b) (hn : xs.length * b ≤ sizeLine)
    (src1 : ∀ x ∈ xs, ∀ H, Ext H1 H → ∀ R : It → Hp → Prop, (∀ J1, (∀ H', Ext H1 H' → SrcAt J1 (ys x) H') → R J1 H) → wi1 ((wipe σ [i0, i1]).set i0 (some x)) H R)
    (step : ∀ x ∈ xs, ∀ y ∈ ys x, ∀ H, Ext H1 H → ∀ (R : V → Hp → Prop) (N : Hp → Prop), (∀ z, f x y = some z → R z H) → (f x y = none → N H) →
      tt1 ((wipe ((wipe σ [i0, i1]).set i0 (some x)) [i1]).set i1 (some y)) H (fun b H3 => if b = true then te ((wipe ((wipe σ [i0, i1]).set i0 (some x)) [i1]).set i1 (some y)) H3 R else N H3))
    (hd : Qd (upd H1 D (.lst (xs.flatMap fun x => (ys x).filterMap (f x))))) :
    ∃ W : Nat → Nat → Hp → Prop, (∃ m, W 0 m (upd H1 D (.lst []))) ∧ ∀ i m H, W i m H →
      (J.stop i H ∧ Qd H) ∨ (J.go i H ∧ ∃ Nx : Hp → Prop, (∀ H', Nx H' → ∃ m', m' < m ∧ W (i + 1) m' H') ∧ ∀ x H', J.yld i H x H' → gName i0 x (wipe σ [i0, i1]) H' fun σ2 H2 => wipe σ2 [i0, i1] = wipe σ [i0, i1] ∧ tYes σ2 H2 fun b H3 =>
        if b = true then wi1 σ2 H3 fun J1 H4 => ∃ W1 : Nat → Nat → Hp → Prop, (∃ m, W1 0 m H4) ∧ ∀ j k H, W1 j k H →
          (J1.stop j H ∧ Nx H) ∨ (J1.go j H ∧ ∃ Nx1 : Hp → Prop, (∀ H', Nx1 H' → ∃ k', k' < k ∧ W1 (j + 1) k' H') ∧ ∀ x H', J1.yld j H x H' → gName i1 x (wipe σ2 [i1]) H' fun σ3 H5 => wipe σ3 [i1] = wipe σ2 [i1] ∧ tt1 σ3 H5 fun b H6 =>
            if b = true then te σ3 H6 fun y H7 => ∃ acc, H7 D = some (.lst acc) ∧ acc.length < sizeLine ∧ Nx1 (upd H7 D (.lst (acc ++ [y]))) else Nx1 H6)
        else Nx H3) := by
  refine ⟨fun i m H => m = xs.length - i ∧ i ≤ xs.length ∧ H = upd H1 D (.lst ((xs.take i).flatMap fun x => (ys x).filterMap (f x))), ⟨xs.length, by simp⟩, ?_⟩
  rintro i m H ⟨rfl, hi, rfl⟩
  have q := S _ (ext_new (o := .lst ((xs.take i).flatMap fun x => (ys x).filterMap (f x))) hD) i
  by_cases hlt : i < xs.length
  · have e : xs[i]? = some xs[i] := List.getElem?_eq_getElem hlt
    obtain ⟨q1, q2⟩ := q.1 _ e
    have hx : xs[i] ∈ xs := List.mem_of_getElem? e
    refine .inr ⟨q1, fun H => H = upd H1 D (.lst ((xs.take (i + 1)).flatMap fun x => (ys x).filterMap (f x))), fun H' p' => ⟨xs.length - (i + 1), by omega, rfl, hlt, p'⟩, fun x H' y => ?_⟩
    obtain ⟨e1, e2⟩ := q2 x H' y
    subst e1 e2
    refine ⟨wipe2 (y := none) ne, ?_⟩
    dsimp only [tYes]
    rw [if_pos rfl]
    refine src1 _ hx _ (ext_new hD) _ fun J1 S1 => ?_
    refine ⟨fun j k H => k = (ys xs[i]).length - j ∧ j ≤ (ys xs[i]).length ∧ H = upd H1 D (.lst (((xs.take i).flatMap fun x => (ys x).filterMap (f x)) ++ ((ys xs[i]).take j).filterMap (f xs[i]))), ⟨(ys xs[i]).length, by simp⟩, ?_⟩
    rintro j k H ⟨rfl, hj, rfl⟩
    have r := S1 _ (ext_new (o := .lst (((xs.take i).flatMap fun x => (ys x).filterMap (f x)) ++ ((ys xs[i]).take j).filterMap (f xs[i]))) hD) j
    by_cases hl2 : j < (ys xs[i]).length
    · have e' : (ys xs[i])[j]? = some (ys xs[i])[j] := List.getElem?_eq_getElem hl2
      obtain ⟨r1, r2⟩ := r.1 _ e'
      refine .inr ⟨r1, fun H => H = upd H1 D (.lst (((xs.take i).flatMap fun x => (ys x).filterMap (f x)) ++ ((ys xs[i]).take (j + 1)).filterMap (f xs[i]))), fun H' p' => ⟨(ys xs[i]).length - (j + 1), by omega, rfl, hl2, p'⟩, fun z H' y => ?_⟩
      obtain ⟨e1, e2⟩ := r2 z H' y
      subst e1 e2
      refine ⟨by show (((wipe ((wipe σ [i0, i1]).set i0 (some xs[i])) [i1]).set i1 (some (ys xs[i])[j])).set i1 none) = (((wipe σ [i0, i1]).set i0 (some xs[i])).set i1 none); rw [List.set_set]; show (((wipe σ [i0, i1]).set i0 (some xs[i])).set i1 none).set i1 none = _; rw [List.set_set], ?_⟩
      refine step _ hx _ (List.mem_of_getElem? e') _ (ext_new hD) _ _ (fun y hy => ?_) (fun hy => ?_)
      · refine ⟨_, upd_same, ?_, ?_⟩
        · rw [List.length_append]
          have l1 := fl_len (F := fun x => (ys x).filterMap (f x)) (b := b) (xs := xs.take i) fun x hx => Nat.le_trans (fm_len _ _) (hb x (List.mem_of_mem_take hx))
          have l2 : (((ys xs[i]).take j).filterMap (f xs[i])).length ≤ j := Nat.le_trans (fm_len _ _) (by rw [List.length_take]; omega)
          have l3 := hb _ hx
          have l4 : (i + 1) * b ≤ xs.length * b := Nat.mul_le_mul_right b hlt
          rw [List.length_take, Nat.min_eq_left hi] at l1
          rw [Nat.add_mul] at l4
          omega
        · rw [upd_upd, take_get e', hy, List.append_assoc]
      · rw [take_get e', hy, List.append_nil]
    · have e1 : j = (ys xs[i]).length := by omega
      subst e1
      refine .inl ⟨r.2 (Nat.le_refl _), ?_⟩
      have e2 : xs.take (i + 1) = xs.take i ++ [xs[i]] := by rw [List.take_add_one, e] <;> rfl
      simp only [e2, List.flatMap_append, List.flatMap_cons, List.flatMap_nil, List.append_nil, List.take_length]
  · have e : i = xs.length := by omega
    subst e
    rw [List.take_length]
    exact .inl ⟨by rw [List.take_length] at q; exact q.2 (Nat.le_refl _), hd⟩
end Bw

namespace Bw
open PySem PySem.Spec PyProof.Rows L2 ItX
/-! ### for x in o, o an instance whose __iter__ gives the iterator of a list -/
section
variable {P : Program} {w : World} {K : PySem.W.Frag} {mg : Str → Option Value} {base : Heap}
/-- a call of a def where the entry's size is told to the promise -/
theorem fn_sized {d : DX} {N ps : List Str} {k : Nat} {sp : Nat → Sp} {fd : FuncData} (F : FnX K d fd) (S : FnScope N ps (defScope d.st)) (len : ∀ n vs H Q E, sp n vs H Q E → vs.length = ps.length)
    (hb0 : ∀ (cdv : Value) (A : Around) (outer : List Env) (s : Shared) (H : Hp) (vs : List V) (Q : VK) (E : XK), N.Nodup → Takes (cxOf (L2.CX P w) P w K mg base N d.qn (defScope d.st) (d.pl K) cdv A outer s H E) (wE E) →
      Room k (A.deeper (envOfC d.qn (defScope d.st) s.heap.objs.size (d.pl K) cdv)) → sp s.heap.objs.size vs H Q E →
      ∃ t, PSs (cxOf (L2.CX P w) P w K mg base N d.qn (defScope d.st) (d.pl K) cdv A outer s H E) (defBody d.st) t ∧ t { nx := fun _ H' => Q .non H', rt := Q } (start N vs) H)
    (A : Around) (outer : List Env) (s : Shared) (H : Hp) (args : Args) (us : List Value) (vs : List V) (Q : VK) (E : XK) (hr : Room (k + 1) A) (e0 : Env0 P w K mg base A outer s H) (hb : BindsTo s fd args (ps.zip us)) (r : Vals vs us)
    (hsp : sp s.heap.objs.size vs H Q E) : codeAny (model P w) A (.call (.ref (d.pl K)) args) (CR (L2.CX P w) outer P w H s Q E) s := by
  obtain ⟨oc, od, kV, doc, pm, an, cdv, ct, osl, rfl, lk, hcd⟩ := F.ex
  have hl := len _ _ _ _ _ hsp
  have up : ∀ b o, base.get? b = some o → s.heap.get? b = some o := fun b o e => (e0.bs b o e).1
  have KX : K.In s.heap := e0.mod.kin.keeps up
  have lim : s.heap.NoLimit := e0.mod.nolimit.keeps up
  have kinds : ∀ y ∈ ps.zip us, (defScope d.st).names.lookup y.1 = some .local ∨ ((defScope d.st).names.lookup y.1 = some .cell ∧ ((cellsFrom (s.heap.objs.size + 1) (defScope d.st).names []).lookup y.1).isSome = true) := by
    rintro ⟨n, v⟩ hy
    rcases S.par n (List.of_mem_zip hy).1 with q | q
    · exact .inl q
    · exact .inr ⟨q, PySem.W.cellsFrom_some _ _ _ (.inl q)⟩
  refine codeAny_call_function hr.depth (KX _ _ lk) rfl S.co S.gen rfl (PySem.W.codeRec_of KX hcd) (hb _ _ _ _ (wpAny_newFunctionEnv_cells S.kind kinds fun env he s1 x => ?_))
  subst he
  refine ⟨lim.keeps x.toInCall.keep, codeAny_func ?_⟩
  obtain ⟨t, ht, hq⟩ := hb0 cdv A outer s H vs Q E S.nd (takes_of rfl rfl rfl rfl) (hr.deeper _) hsp
  refine wpAny_mono (ht.run [] s1 (start N vs) H _ (inv_start S hr.hd e0 hl r x) hq) (fun fl s' hs => ?_) fun e s' hs => hs
  cases fl with
  | ret u => obtain ⟨v, σ', H', J, rv, q⟩ := hs; exact ⟨v, H', J.os, J.bare, J.base, J.hok, rv, q⟩
  | next => obtain ⟨σ', H', J, q⟩ := hs; exact ⟨.non, H', J.os, J.bare, J.base, J.hok, rfl, q⟩
  | brk => obtain ⟨_, _, _, q⟩ := hs; exact q.elim
  | cont => obtain ⟨_, _, _, q⟩ := hs; exact q.elim
/-- what such an __iter__ promises: f the attribute that holds the list -/
def spIt (K : PySem.W.Frag) (C : Addr) (f : Str) (n : Nat) : Sp := fun vs H Q _ => ∃ (a dx l : Addr) (fs : List (Str × V)) (xs : List V), vs = [.ref a] ∧ H a = some (.ins C dx fs) ∧ fs.lookup f = some (.ref l) ∧ SqL K H l xs ∧ ∀ it, H it = none → n ≤ it → Q (.ref it) (upd H it (ItO l it 0))
/-- the method at g is such an __iter__ -/
def ItFn (P : Program) (w : World) (K : PySem.W.Frag) (mg : Str → Option Value) (base : Heap) (C g : Addr) (f : Str) (k : Nat) : Prop :=
  ∀ (A : Around) (outer : List Env) (s : Shared) (H : Hp) (a : Addr) (Q : VK), Room k A → Env0 P w K mg base A outer s H → spIt K C f s.heap.objs.size [.ref a] H Q L2.E0 →
    codeAny (model P w) A (.call (.ref g) ⟨[.ref a], []⟩) (CR (L2.CX P w) outer P w H s Q L2.E0) s
end
def iOwn (K : PySem.W.Frag) (C : Addr) (f : Str) (ta : TE) : TI := fun σ H R => ta σ H fun x H1 => ∃ (a dx l : Addr) (fs : List (Str × V)) (xs : List V), x = .ref a ∧ H1 a = some (.ins C dx fs) ∧ fs.lookup f = some (.ref l) ∧ SqL K H1 l xs ∧ R (Itl K l) H1
theorem pi_own {X : Cx} {tg o : Expr} {C g : Addr} {f : Str} {k : Nat} {ta : TE} (h1 : PySem.W.findIn X.K (.ref C) "__iter__" = some (some (.ref g))) (h2 : PySem.W.isFn X.K (.ref g) = true) (G : ItFn X.prog X.w X.K X.mg X.base C g f k) (hr : Room k X.A) (ho : PE X o ta) : PI X tg o (iOwn X.K C f ta) := by
  refine ⟨fun pins s σ H R I h => thn (ho.run pins s σ H _ I h) fun u s1 hh => ?_⟩
  obtain ⟨x, H1, I1, rx, a, dx, l, fs, xs, rfl, ea, el, hs, q⟩ := hh
  cases rx
  obtain ⟨od, J⟩ := inst_at I1 ea
  obtain ⟨m, hF⟩ := I1.fr
  refine PySem.W.owit_iter hF I1.ok.mod.kin J h1 h2 ?_
  have run := G X.A X.stack s1 H1 a (fun v H2 => ∃ it, v = .ref it ∧ H1 it = none ∧ s1.heap.objs.size ≤ it ∧ H2 = upd H1 it (ItO l it 0)) hr I1.env0 ⟨a, dx, l, fs, xs, rfl, ea, el, hs, fun it h1 h2 => ⟨it, rfl, h1, h2, rfl⟩⟩
  refine wpAny_call (codeAny_mono run fun r s2 hq => ?_)
  cases r with
  | error e => obtain ⟨_, _, _, _, _, _, _, _, _, _, _, _, z⟩ := hq; exact z.elim
  | ok fl =>
    cases fl with
    | next => exact hq.elim
    | brk => exact hq.elim
    | cont => exact hq.elim
    | ret u =>
      obtain ⟨v, H2, I2, rv, it, rfl, hn, hsz, rfl⟩ := I1.after hq
      cases rv
      have hi : upd H1 it (ItO l it 0) it = some (ItO l it 0) := upd_same
      have eo := itO_get I2 hi
      have st : s2.heap.IsListIter it l 0 := ⟨_, eo, rfl, rfl⟩
      have hi' := hi
      unfold ItO at hi'
      have hd : dropH (upd H1 it (ItO l it 0)) it = H1 := by
        funext b
        unfold dropH
        by_cases e : b = it
        · rw [if_pos e, e, hn]
        · rw [if_neg e, upd_ne e]
      have I3 := inv_drop I2 hi'
      have fp := inv_fp I2 hi (Nat.le_trans I1.sz hsz)
      rw [hd] at I3 fp
      have nxt : PySem.W.Looks (model X.prog X.w) s2.heap (specialOf (.ref it) "__next__") (some (.builtin "list_iterator.__next__")) := by
        have T : PySem.W.Looks (model X.prog X.w) s2.heap (typeOf (.ref it)) (.type "list_iterator") := fun A Q E s k q => wpAny_typeOf_ref (k _ _ eo) q
        have lk : typeLookup (.type "list_iterator") "__next__" = pure (some (.builtin "list_iterator.__next__")) := by rw [typeLookup_type, builtinLookup_eq_fast]; kernel_rfl
        exact T.andThen (PySem.W.Looks.of_pure lk)
      unfold PySem.W.OwitIt
      refine nxt.here ?_
      show PIE X pins σ tg R (.ref it) s2
      refine ⟨it, [it], _, _, H1, rfl, I3, turn_list l it, st, fun b hb => ?_, q⟩
      have e : b = it := by simpa using hb
      rw [e]
      exact fp
end Bw

namespace Bw
open PySem PySem.Spec PyProof.Rows L2
/-! ### plain: sorted lists, what comes up twice -/
def insI (a : Int) : List Int → List Int
  | [] => [a]
  | b :: r => if a ≤ b then a :: b :: r else b :: insI a r
def srt : List Int → List Int
  | [] => []
  | a :: r => insI a (srt r)
theorem insI_perm (a : Int) : ∀ l, (insI a l).Perm (a :: l)
  | [] => .refl _
  | b :: r => by
    unfold insI
    split
    · exact .refl _
    · exact ((insI_perm a r).cons b).trans (.swap a b r)
theorem srt_perm : ∀ l, (srt l).Perm l
  | [] => .refl _
  | a :: r => (insI_perm a (srt r)).trans ((srt_perm r).cons a)
theorem insI_le (a : Int) : ∀ l : List Int, l.Pairwise (· ≤ ·) → (insI a l).Pairwise (· ≤ ·)
  | [], _ => by simp [insI]
  | b :: r, h => by
    unfold insI
    obtain ⟨h1, h2⟩ := List.pairwise_cons.mp h
    split
    · rename_i hab
      refine List.pairwise_cons.mpr ⟨fun c hc => ?_, h⟩
      rcases List.mem_cons.mp hc with rfl | hc
      · exact hab
      · exact Int.le_trans hab (h1 c hc)
    · rename_i hab
      refine List.pairwise_cons.mpr ⟨fun c hc => ?_, insI_le a r h2⟩
      rcases List.mem_cons.mp ((insI_perm a r).mem_iff.mp hc) with rfl | hc
      · omega
      · exact h1 c hc
theorem srt_le : ∀ l : List Int, (srt l).Pairwise (· ≤ ·)
  | [] => .nil
  | a :: r => insI_le a _ (srt_le r)
theorem srt_unique {l m : List Int} (p : l.Perm m) (h : l.Pairwise (· ≤ ·)) : l = srt m :=
  List.Perm.eq_of_pairwise (fun _ _ _ _ a b => Int.le_antisymm a b) h (srt_le m) (p.trans (srt_perm m).symm)
theorem srt_of_le {l : List Int} (h : l.Pairwise (· ≤ ·)) : srt l = l := (srt_unique (.refl l) h).symm
theorem srt_congr {l m : List Int} (p : l.Perm m) : srt l = srt m := srt_unique ((srt_perm l).trans p) (srt_le l)
theorem mem_srt {l : List Int} {x : Int} : x ∈ srt l ↔ x ∈ l := (srt_perm l).mem_iff
theorem srt_length (l : List Int) : (srt l).length = l.length := (srt_perm l).length_eq
theorem srt_nodup {l : List Int} (h : l.Nodup) : (srt l).Nodup := (srt_perm l).nodup_iff.mpr h
/-- the first of a sorted list that stands beside its like -/
def adj : List Int → Option Int
  | [] => none
  | a :: r => match r with
    | [] => none
    | b :: _ => if a = b then some a else adj r
/-- the least that comes up twice -/
def rep (l : List Int) : Option Int := adj (srt l)
/-! ### what a deed on lots ends in -/
inductive Out where
  | lot (n : Int) (ms : List Int) | meets (h : Int) | other | notdiv (m : Int) | bad (nm : Str) (v : Int)
def onceOut (n : Int) (rs : List Int) : Out := match rep rs with
  | some h => .meets h
  | none => .lot n (srt rs)
def mulOut (n : Int) (ms : List Int) (f : Int) : Out := onceOut n (ms.map fun m => (m * f) % n)
def addOut (n : Int) (ms : List Int) (n' : Int) (ms' : List Int) : Out := if n = n' then onceOut n (ms.flatMap fun a => ms'.map fun b => (a + b) % n) else .other
def modOut (n : Int) (ms : List Int) (m : Int) : Out := if m < 1 ∨ n % m ≠ 0 then .notdiv m else onceOut m (ms.map fun a => a % m)
def copies (n : Int) (ms : List Int) (t : Int) : List Int := (List.range t.toNat).flatMap fun lap : Nat => ms.map fun a : Int => a + (lap : Int) * n
def powOut (n : Int) (ms : List Int) (t : Int) : Out := if t < 1 then .bad "times" t else if 360 < n * t then .bad "hours" (n * t) else .lot (n * t) (copies n ms t)
/-! ### a lot in the heap -/
structure LotOk (n : Int) (ms : List Int) : Prop where
  n1 : 1 ≤ n
  n2 : n ≤ 360
  asc : ms.Pairwise (· < ·)
  rng : ∀ m ∈ ms, 0 ≤ m ∧ m < n
def lotFs (n : Int) (lm : Addr) : List (Str × V) := [("hours", .int n), ("_members", .ref lm)]
def LotAt (K : PySem.W.Frag) (H : Hp) (a : Addr) (n : Int) (ms : List Int) : Prop := LotOk n ms ∧ ∃ dx lm, H a = some (.ins (He.ga K "Lot") dx (lotFs n lm)) ∧ H lm = some (.lst (ms.map V.int))
theorem LotAt.ext {K : PySem.W.Frag} {H H' : Hp} {a : Addr} {n : Int} {ms : List Int} (h : LotAt K H a n ms) (x : Ext H H') : LotAt K H' a n ms := by
  obtain ⟨o, dx, lm, h1, h2⟩ := h
  exact ⟨o, dx, lm, x _ _ h1, x _ _ h2⟩
theorem asc_len : ∀ (ms : List Int) (lo n : Int), ms.Pairwise (· < ·) → (∀ m ∈ ms, lo ≤ m ∧ m < n) → ms.length ≤ (n - lo).toNat
  | [], _, _, _, _ => Nat.zero_le _
  | m :: r, lo, n, h, hr => by
    obtain ⟨h1, h2⟩ := List.pairwise_cons.mp h
    have q := hr m List.mem_cons_self
    have := asc_len r (m + 1) n h2 fun x hx => ⟨by have := h1 x hx; omega, (hr x (List.mem_cons_of_mem _ hx)).2⟩
    rw [List.length_cons]
    omega
theorem LotOk.len {n : Int} {ms : List Int} (h : LotOk n ms) : ms.length ≤ 360 := by
  have := asc_len ms 0 n h.asc h.rng
  have := h.n2
  omega
/-- how a deed ends, as a call's end: a lot, or an error with its dict -/
def Done (K : PySem.W.Frag) (H : Hp) (Q : VK) (E : XK) : Out → Prop
  | .lot n ms => ∀ H' a, Ext H H' → LotAt K H' a n ms → Q (.ref a) H'
  | .meets h => ∀ H' d, Ext H H' → H' d = some (.xd [("hour", .int h)]) → E (.ref (He.ga K "Meets")) (some d) H'
  | .other => ∀ H', Ext H H' → E (.ref (He.ga K "OtherHours")) none H'
  | .notdiv m => ∀ H' d, Ext H H' → H' d = some (.xd [("number", .int m)]) → E (.ref (He.ga K "NotADivisor")) (some d) H'
  | .bad nm v => ∀ H' d, Ext H H' → H' d = some (.xd [("value", .int v), ("name", .str nm)]) → E (.ref (He.ga K "BadNumber")) (some d) H'
theorem Done.ext {K : PySem.W.Frag} {H H1 : Hp} {Q : VK} {E : XK} {o : Out} (h : Done K H Q E o) (x : Ext H H1) : Done K H1 Q E o := by
  cases o with
  | lot n ms => exact fun H' a y => h H' a (x.trans y)
  | meets m => exact fun H' a y => h H' a (x.trans y)
  | other => exact fun H' y => h H' (x.trans y)
  | notdiv m => exact fun H' a y => h H' a (x.trans y)
  | bad nm v => exact fun H' a y => h H' a (x.trans y)
/-! ### promises -/
def spF (_ : PySem.W.Frag) : Sp := fun _ _ _ _ => False
def sp_hours_checked (K : PySem.W.Frag) : Sp := fun vs H Q E => ∃ n m : Int, vs = [.int n, .int m] ∧ if 1 ≤ n ∧ n ≤ m then Q .non H else Done K H Q E (.bad "hours" n)
def sp_rings_checked (K : PySem.W.Frag) : Sp := fun vs H Q E => ∃ (a b : Addr) (n n' : Int) (ms ms' : List Int), vs = [.ref a, .ref b] ∧ LotAt K H a n ms ∧ LotAt K H b n' ms' ∧ if n = n' then Q .non H else Done K H Q E .other
def sp_each_once (K : PySem.W.Frag) : Sp := fun vs H Q E => ∃ (a : Addr) (rs : List Int), vs = [.ref a] ∧ SqL K H a (rs.map V.int) ∧ rs.length ≤ 200000 ∧ match rep rs with
  | some h => Done K H Q E (.meets h)
  | none => ∀ H' p, Ext H H' → H' p = some (.lst ((srt rs).map V.int)) → Q (.ref p) H'
def sp_Lot_init (K : PySem.W.Frag) : Sp := fun vs H Q E => ∃ (a dx l : Addr) (n : Int) (ms : List Int), vs = [.ref a, .int n, .ref l] ∧ H a = some (.ins (He.ga K "Lot") dx []) ∧ SqL K H l (ms.map V.int) ∧ 1 ≤ n ∧ n ≤ 360 ∧ ms.length ≤ 4000 ∧ (ms.map fun m => m % n).Nodup ∧
  ∀ H' lm, (∀ b o, b ≠ a → H b = some o → H' b = some o) → H' a = some (.ins (He.ga K "Lot") dx (lotFs n lm)) → H' lm = some (.lst ((srt (ms.map fun m => m % n)).map V.int)) → Q .non H'
def sp_Lot_members (K : PySem.W.Frag) : Sp := fun vs H Q E => ∃ (a : Addr) (n : Int) (ms : List Int), vs = [.ref a] ∧ LotAt K H a n ms ∧ ∀ H' p, Ext H H' → H' p = some (.lst (ms.map V.int)) → Q (.ref p) H'
def sp_Lot_len (K : PySem.W.Frag) : Sp := fun vs H Q E => ∃ (a : Addr) (n : Int) (ms : List Int), vs = [.ref a] ∧ LotAt K H a n ms ∧ Q (.int (ms.length : Nat)) H
def sp_Lot_mul (K : PySem.W.Frag) : Sp := fun vs H Q E => ∃ (a : Addr) (n f : Int) (ms : List Int), vs = [.ref a, .int f] ∧ LotAt K H a n ms ∧ f.natAbs < 2 ^ 400 ∧ Done K H Q E (mulOut n ms f)
def sp_Lot_rmul (K : PySem.W.Frag) : Sp := sp_Lot_mul K
def sp_Lot_add (K : PySem.W.Frag) : Sp := fun vs H Q E => ∃ (a b : Addr) (n n' : Int) (ms ms' : List Int), vs = [.ref a, .ref b] ∧ LotAt K H a n ms ∧ LotAt K H b n' ms' ∧ Done K H Q E (addOut n ms n' ms')
def sp_Lot_mod (K : PySem.W.Frag) : Sp := fun vs H Q E => ∃ (a : Addr) (n m : Int) (ms : List Int), vs = [.ref a, .int m] ∧ LotAt K H a n ms ∧ Done K H Q E (modOut n ms m)
def sp_Lot_pow (K : PySem.W.Frag) : Sp := fun vs H Q E => ∃ (a : Addr) (n t : Int) (ms : List Int), vs = [.ref a, .int t] ∧ LotAt K H a n ms ∧ t ≤ 1000 ∧ Done K H Q E (powOut n ms t)
end Bw
namespace Bw
open PySem PySem.Spec PyProof.Rows L2
/-! ### what the written part says of classes, for the readings -/
def raisedC : List Str := ["Meets", "OtherHours", "NotADivisor", "BadNumber"]
def caughtC : List Str := ["Meets", "OtherHours", "NotADivisor", "BadNumber", "WatchError"]
def askedC : List Str := ["Meets", "OtherHours", "NotADivisor", "BadNumber", "RepeatedHour"]
def exmAll (K : PySem.W.Frag) : Bool := raisedC.all fun x => caughtC.all fun y => decide (PySem.W.exmOne K (.ref (He.ga K x)) (.ref (He.ga K y)) = some (decide (x = y) || decide (y = "WatchError")))
def kitAll (K : PySem.W.Frag) : Bool := raisedC.all fun x => excCB K (He.ga K x) && (decide (PySem.W.kitOne K (.ref (He.ga K x)) (.type "ValueError") = some true) && askedC.all fun y => decide (PySem.W.kitOne K (.ref (He.ga K x)) (.ref (He.ga K y)) = some (decide (x = y))))
def insAll (K : PySem.W.Frag) (C : Str) : Bool := (He.Fa.cls C).ok K && (He.eqO (PySem.W.findIn K (.ref (He.ga K C)) "__class__") (some (some (.builtin "object.__class__"))) && (He.eqO (PySem.W.specialIn K (.builtin "object.__class__") "__get__") (some (some (.builtin "getset_descriptor.__get__"))) &&
  (decide (PySem.W.takesIn K (.builtin "object.__class__") = some true) && decide (PySem.W.mroIn K (He.ga K C) (.type "object") = some true))))
theorem insAll_ok {K : PySem.W.Frag} {C : Str} {H : Hp} {a dx : Addr} {fs : List (Str × V)} (h : insAll K C = true) (e : H a = some (.ins (He.ga K C) dx fs)) : TyX K H (.ref a) (.ref (He.ga K C)) := by
  obtain ⟨h1, h⟩ := He.ba h
  obtain ⟨h2, h⟩ := He.ba h
  obtain ⟨h3, h⟩ := He.ba h
  obtain ⟨h4, h5⟩ := He.ba h
  exact .base (.ins e (He.cls_ok h1) (He.eqO_ok h2) (He.eqO_ok h3) (of_decide_eq_true h4) (of_decide_eq_true h5))
structure KF (K : PySem.W.Frag) : Prop where
  exm : exmAll K = true
  kit : kitAll K = true
  lot : insAll K "Lot" = true
theorem KF.ex {K : PySem.W.Frag} (F : KF K) {x y : Str} (hx : x ∈ raisedC) (hy : y ∈ caughtC) : PySem.W.exmOne K (.ref (He.ga K x)) (.ref (He.ga K y)) = some (decide (x = y) || decide (y = "WatchError")) :=
  of_decide_eq_true (List.all_eq_true.mp (List.all_eq_true.mp F.exm x hx) y hy)
theorem KF.kc {K : PySem.W.Frag} (F : KF K) {x : Str} (hx : x ∈ raisedC) : excCB K (He.ga K x) = true := (He.ba (List.all_eq_true.mp F.kit x hx)).1
theorem KF.kv {K : PySem.W.Frag} (F : KF K) {x : Str} (hx : x ∈ raisedC) : PySem.W.kitOne K (.ref (He.ga K x)) (.type "ValueError") = some true := of_decide_eq_true (He.ba (He.ba (List.all_eq_true.mp F.kit x hx)).2).1
theorem KF.ko {K : PySem.W.Frag} (F : KF K) {x y : Str} (hx : x ∈ raisedC) (hy : y ∈ askedC) : PySem.W.kitOne K (.ref (He.ga K x)) (.ref (He.ga K y)) = some (decide (x = y)) :=
  of_decide_eq_true (List.all_eq_true.mp (He.ba (He.ba (List.all_eq_true.mp F.kit x hx)).2).2 y hy)
end Bw

namespace Bw
open PySem PySem.Spec PyProof.Rows L2
/-! ### plain data in the heap, by its depth -/
mutual
inductive Dn (H : Hp) : Nat → V → PyData → Prop
  | non (d : Nat) : Dn H d .non .none
  | bl (d : Nat) (b : Bool) : Dn H d (.bl b) (.bool b)
  | int (d : Nat) (i : Int) : Dn H d (.int i) (.int i)
  | str (d : Nat) (x : Str) : Dn H d (.str x) (.str x)
  | lst {d : Nat} {a : Addr} {xs : List V} {ds : List PyData} (h : H a = some (.lst xs)) (l : xs.length ≤ 200000) (r : DnAll H d xs ds) : Dn H (d + 1) (.ref a) (.list ds)
  | tup {d : Nat} {a : Addr} {xs : List V} {ds : List PyData} (h : H a = some (.tup xs)) (l : xs.length ≤ 200000) (r : DnAll H d xs ds) : Dn H (d + 1) (.ref a) (.tuple ds)
inductive DnAll (H : Hp) : Nat → List V → List PyData → Prop
  | nil (d : Nat) : DnAll H d [] []
  | cons {d : Nat} {v : V} {vs : List V} {p : PyData} {ps : List PyData} (h : Dn H d v p) (r : DnAll H d vs ps) : DnAll H d (v :: vs) (p :: ps)
end
mutual
theorem Dn.ext {H H' : Hp} (x : Ext H H') : ∀ {d : Nat} {v : V} {p : PyData}, Dn H d v p → Dn H' d v p
  | _, _, _, .non d => .non d
  | _, _, _, .bl d b => .bl d b
  | _, _, _, .int d i => .int d i
  | _, _, _, .str d z => .str d z
  | _, _, _, .lst h l r => .lst (x _ _ h) l (DnAll.ext x r)
  | _, _, _, .tup h l r => .tup (x _ _ h) l (DnAll.ext x r)
theorem DnAll.ext {H H' : Hp} (x : Ext H H') : ∀ {d : Nat} {vs : List V} {ps : List PyData}, DnAll H d vs ps → DnAll H' d vs ps
  | _, _, _, .nil d => .nil d
  | _, _, _, .cons h r => .cons (Dn.ext x h) (DnAll.ext x r)
end
theorem dnInts (H : Hp) (d : Nat) : ∀ ns : List Int, DnAll H d (ns.map V.int) (ns.map PyData.int)
  | [] => .nil d
  | n :: r => .cons (.int d n) (dnInts H d r)
/-! ### deeds -/
inductive Deed where
  | mul (n : Int) (ms : List Int) (f : Int) | rmul (n : Int) (ms : List Int) (f : Int) | add (n : Int) (ms : List Int) (n' : Int) (ms' : List Int) | md (n : Int) (ms : List Int) (m : Int) | pw (n : Int) (ms : List Int) (t : Int)
def Deed.out : Deed → Out
  | .mul n ms f => mulOut n ms f
  | .rmul n ms f => mulOut n ms f
  | .add n ms n' ms' => addOut n ms n' ms'
  | .md n ms m => modOut n ms m
  | .pw n ms t => powOut n ms t
/-- the deed's two sides and its number -/
def Deed.at_ (K : PySem.W.Frag) (H : Hp) (x y : V) (w : Int) : Deed → Prop
  | .mul n ms f => w = 0 ∧ f.natAbs < 2 ^ 400 ∧ ∃ a, x = .ref a ∧ LotAt K H a n ms ∧ y = .int f
  | .rmul n ms f => w = 0 ∧ f.natAbs < 2 ^ 400 ∧ ∃ a, y = .ref a ∧ LotAt K H a n ms ∧ x = .int f
  | .add n ms n' ms' => w = 1 ∧ ∃ a b, x = .ref a ∧ LotAt K H a n ms ∧ y = .ref b ∧ LotAt K H b n' ms'
  | .md n ms m => w = 2 ∧ ∃ a, x = .ref a ∧ LotAt K H a n ms ∧ y = .int m
  | .pw n ms t => w = 3 ∧ 0 ≤ t ∧ t ≤ 64 ∧ ∃ a, x = .ref a ∧ LotAt K H a n ms ∧ y = .int t
theorem Deed.ext {K : PySem.W.Frag} {H H' : Hp} {x y : V} {w : Int} {d : Deed} (h : d.at_ K H x y w) (e : Ext H H') : d.at_ K H' x y w := by
  cases d with
  | mul n ms f => obtain ⟨h1, h2, a, h3, h4, h5⟩ := h; exact ⟨h1, h2, a, h3, h4.ext e, h5⟩
  | rmul n ms f => obtain ⟨h1, h2, a, h3, h4, h5⟩ := h; exact ⟨h1, h2, a, h3, h4.ext e, h5⟩
  | add n ms n' ms' => obtain ⟨h1, a, b, h3, h4, h5, h6⟩ := h; exact ⟨h1, a, b, h3, h4.ext e, h5, h6.ext e⟩
  | md n ms m => obtain ⟨h1, a, h3, h4, h5⟩ := h; exact ⟨h1, a, h3, h4.ext e, h5⟩
  | pw n ms t => obtain ⟨h1, h2, h2', a, h3, h4, h5⟩ := h; exact ⟨h1, h2, h2', a, h3, h4.ext e, h5⟩
/-- what is due, as the law writes it -/
def dueD : Out → PyData
  | .lot _ ms => .list (ms.map PyData.int)
  | .meets h => .tuple [.str "Meets", .int h]
  | .other => .tuple [.str "OtherHours"]
  | .notdiv m => .tuple [.str "NotADivisor", .int m]
  | .bad nm v => .tuple [.str "BadNumber", .str nm, .int v]
def ToldAt (K : PySem.W.Frag) (H : Hp) (v : V) : Out → Prop
  | .lot n ms => ∃ a, v = .ref a ∧ LotAt K H a n ms
  | o => Dn H 1 v (dueD o)
def kindsOf : Out → List Bool
  | .lot _ _ => []
  | .meets _ => [true, true, false, false, false, false]
  | .other => [true, false, true, false, false, false]
  | .notdiv _ => [true, false, false, true, false, false]
  | .bad _ _ => [true, false, false, false, true, false]
/-! ### promises of the law's own defs -/
def sp_l_cell (K : PySem.W.Frag) : Sp := fun vs H Q E => ∃ (a : Addr) (ns : List Int) (k : Nat), vs = [.ref a, .int (k : Nat)] ∧ SqL K H a (ns.map V.int) ∧ ∀ r : Int, 0 ≤ r → Q (.int r) H
def sp_l_draws (K : PySem.W.Frag) : Sp := fun vs H Q E => ∃ (c s : Int) (a : Addr) (ms : List Int), vs = [.int c, .int s, .ref a] ∧ 0 ≤ c ∧ 0 ≤ s ∧ s ≤ 1000000 ∧ SqL K H a (ms.map V.int) ∧ ms.length ≤ 1000 ∧ (∀ m ∈ ms, 1 ≤ m ∧ m < 2 ^ 64) ∧
  ∀ H' p (ws : List Int), Ext H H' → H p = none → H' p = some (.lst (ws.map V.int)) → ws.length = ms.length → (∀ (k : Nat) (w m : Int), ws[k]? = some w → ms[k]? = some m → 0 ≤ w ∧ w < m) → Q (.ref p) H'
def sp_l_is_int (K : PySem.W.Frag) : Sp := fun vs H Q E => ∃ i : Int, vs = [.int i] ∧ Q (.bl true) H
def sp_l_same (d : Nat) (K : PySem.W.Frag) : Sp := fun vs H Q E => ∃ (x y : V) (p : PyData), vs = [x, y] ∧ Dn H d x p ∧ Dn H d y p ∧ Q (.bl true) H
def sp_l_digits (K : PySem.W.Frag) : Sp := fun vs H Q E => ∃ c s : Int, vs = [.int c, .int s] ∧ 0 ≤ c ∧ 0 ≤ s ∧ s ≤ 1000000 ∧ ∀ H' (r : Int), Ext H H' → 0 ≤ r → r < 10 ^ 60 → Q (.int r) H'
def Rising (n : Int) (ms : List Int) : Prop := ms.Pairwise (· < ·) ∧ ∀ m ∈ ms, 0 ≤ m ∧ m < n
def sp_l_bits (K : PySem.W.Frag) : Sp := fun vs H Q E => ∃ n b : Int, vs = [.int n, .int b] ∧ 0 ≤ n ∧ n ≤ 10000 ∧ ∀ H' p (ms : List Int), Ext H H' → H p = none → H' p = some (.lst (ms.map V.int)) → Rising n ms → Q (.ref p) H'
def sp_l_subset (K : PySem.W.Frag) : Sp := fun vs H Q E => ∃ c s n : Int, vs = [.int c, .int s, .int n] ∧ 0 ≤ c ∧ 0 ≤ s ∧ s ≤ 1000000 ∧ 0 ≤ n ∧ n ≤ 1000 ∧ ∀ H' p (ms : List Int), Ext H H' → H p = none → H' p = some (.lst (ms.map V.int)) → Rising n ms → Q (.ref p) H'
def sp_l_drawn_lot (K : PySem.W.Frag) : Sp := fun vs H Q E => ∃ c s n w : Int, vs = [.int c, .int s, .int n, .int w] ∧ 0 ≤ c ∧ 0 ≤ s ∧ s ≤ 1000000 ∧ 0 ≤ n ∧ n ≤ 1000 ∧ ∀ H' p (ms : List Int), Ext H H' → H p = none → H' p = some (.lst (ms.map V.int)) → Rising n ms → Q (.ref p) H'
def sp_l_divisors (K : PySem.W.Frag) : Sp := fun vs H Q E => ∃ n : Int, vs = [.int n] ∧ 1 ≤ n ∧ n ≤ 100000 ∧ ∀ H' p (ds : List Int), Ext H H' → H p = none → H' p = some (.lst (ds.map V.int)) → ds ≠ [] → (∀ d ∈ ds, 1 ≤ d ∧ d ≤ n ∧ n % d = 0) → Q (.ref p) H'
def sp_l_numbers (K : PySem.W.Frag) : Sp := fun vs H Q E => ∃ (a : Addr) (ns : List Int) (n : Int), vs = [.ref a, .int n] ∧ SqL K H a (ns.map V.int) ∧ 1 ≤ n ∧ n ≤ 361 ∧
  ∀ H' p (f g t : Int), Ext H H' → H' p = some (.tup [.int f, .int g, .int t]) → f.natAbs < 2 ^ 400 → 0 ≤ t → t ≤ 64 → Q (.ref p) H'
def sp_l_copies (K : PySem.W.Frag) : Sp := fun vs H Q E => ∃ (a : Addr) (n t : Int) (ms : List Int), vs = [.ref a, .int t] ∧ LotAt K H a n ms ∧ 0 ≤ t ∧ t ≤ 64 ∧ Done K H Q E (powOut n ms t)
def sp_l_copies_to_21 (K : PySem.W.Frag) : Sp := fun vs H Q E => ∃ (a : Addr) (n t : Int) (ms : List Int), vs = [.ref a, .int t] ∧ LotAt K H a n ms ∧ 0 ≤ t ∧ t ≤ 21 ∧ Done K H Q E (powOut n ms t)
def sp_l_copies_to_43 (K : PySem.W.Frag) : Sp := fun vs H Q E => ∃ (a : Addr) (n t : Int) (ms : List Int), vs = [.ref a, .int t] ∧ LotAt K H a n ms ∧ 22 ≤ t ∧ t ≤ 43 ∧ Done K H Q E (powOut n ms t)
def sp_l_copies_to_64 (K : PySem.W.Frag) : Sp := fun vs H Q E => ∃ (a : Addr) (n t : Int) (ms : List Int), vs = [.ref a, .int t] ∧ LotAt K H a n ms ∧ 44 ≤ t ∧ t ≤ 64 ∧ Done K H Q E (powOut n ms t)
def sp_l_done (K : PySem.W.Frag) : Sp := fun vs H Q E => ∃ (x y : V) (w : Int) (d : Deed), vs = [x, y, .int w] ∧ d.at_ K H x y w ∧ Done K H Q E d.out
def sp_l_told (K : PySem.W.Frag) : Sp := fun vs H Q E => ∃ (x y : V) (w : Int) (d : Deed), vs = [x, y, .int w] ∧ d.at_ K H x y w ∧ ∀ H' v, Ext H H' → ToldAt K H' v d.out → Q v H'
def sp_l_kinds (K : PySem.W.Frag) : Sp := fun vs H Q E => ∃ (x y : V) (w : Int) (d : Deed), vs = [x, y, .int w] ∧ d.at_ K H x y w ∧ ∀ H' p, Ext H H' → H' p = some (.lst ((kindsOf d.out).map V.bl)) → Q (.ref p) H'
def sp_l_is_lot (K : PySem.W.Frag) : Sp := fun vs H Q E => ∃ (a l : Addr) (n : Int) (ms : List Int), vs = [.ref a, .int n, .ref l] ∧ LotAt K H a n ms ∧ H l = some (.lst (ms.map V.int)) ∧ ∀ H', Ext H H' → Q (.bl true) H'
def sp_l_agrees (K : PySem.W.Frag) : Sp := fun vs H Q E => ∃ (x y u : V) (w n : Int) (d : Deed), vs = [x, y, .int w, .int n, u] ∧ d.at_ K H x y w ∧ Dn H 1 u (dueD d.out) ∧ (∀ n' ms, d.out = .lot n' ms → n = n') ∧ ∀ H', Ext H H' → Q (.bl true) H'
def sp_l_once (K : PySem.W.Frag) : Sp := fun vs H Q E => ∃ (a : Addr) (n : Int) (rs : List Int), vs = [.ref a, .int n] ∧ H a = some (.lst (rs.map V.int)) ∧ 0 ≤ n ∧ n ≤ 1000 ∧ (∀ r ∈ rs, 0 ≤ r ∧ r < n) ∧ ∀ H' v, Ext H H' → Dn H' 1 v (dueD (onceOut n rs)) → Q v H'
def sp_l_sums (K : PySem.W.Frag) : Sp := fun vs H Q E => ∃ (a b : Addr) (n r : Int) (ms ms' : List Int), vs = [.ref a, .ref b, .int n, .int r] ∧ H a = some (.lst (ms.map V.int)) ∧ H b = some (.lst (ms'.map V.int)) ∧ LotOk n ms ∧ LotOk r ms' ∧ ∀ H' v, Ext H H' → Dn H' 1 v (dueD (addOut n ms r ms')) → Q v H'
def sp_l_products (K : PySem.W.Frag) : Sp := fun vs H Q E => ∃ (a l : Addr) (n f : Int) (ms : List Int), vs = [.ref a, .ref l, .int n, .int f] ∧ LotAt K H a n ms ∧ H l = some (.lst (ms.map V.int)) ∧ f.natAbs < 2 ^ 400 ∧ ∀ H', Ext H H' → Q (.bl true) H'
def sp_l_residues (K : PySem.W.Frag) : Sp := fun vs H Q E => ∃ (a l : Addr) (n m : Int) (ms : List Int), vs = [.ref a, .ref l, .int n, .int m] ∧ LotAt K H a n ms ∧ H l = some (.lst (ms.map V.int)) ∧ ∀ H', Ext H H' → Q (.bl true) H'
def sp_l_copied (K : PySem.W.Frag) : Sp := fun vs H Q E => ∃ (a l : Addr) (n t : Int) (ms : List Int), vs = [.ref a, .ref l, .int n, .int t] ∧ LotAt K H a n ms ∧ H l = some (.lst (ms.map V.int)) ∧ 0 ≤ t ∧ t ≤ 64 ∧ ∀ H', Ext H H' → Q (.bl true) H'
def sp_law (K : PySem.W.Frag) : Sp := fun vs H Q E => ∃ (a : Addr) (ns : List Int), vs = [.ref a] ∧ SqL K H a (ns.map V.int) ∧ ∀ H', Q (.bl true) H'
theorem lot_h (n : Int) (lm : Addr) : (lotFs n lm).lookup ("hours" : Str) = some (V.int n) := rfl
theorem lot_m (n : Int) (lm : Addr) : (lotFs n lm).lookup ("_members" : Str) = some (V.ref lm) := rfl
/-! ### lists of ints -/
def fI (g : Int → Option Int) : V → Option V
  | .int i => (g i).map V.int
  | _ => none
theorem fm_fI (g : Int → Option Int) : ∀ ns : List Int, (ns.map V.int).filterMap (fI g) = (ns.filterMap g).map V.int
  | [] => rfl
  | n :: r => by
    rw [List.map_cons, List.filterMap_cons, List.filterMap_cons, fm_fI g r]
    have e : fI g (.int n) = (g n).map V.int := rfl
    rw [e]
    cases g n <;> rfl
theorem fm_some {α β : Type} (g : α → β) : ∀ ns : List α, ns.filterMap (fun i => some (g i)) = ns.map g := fun ns => List.filterMap_eq_map ▸ rfl
theorem mem_mapI {ns : List Int} {x : V} (h : x ∈ ns.map V.int) : ∃ i ∈ ns, x = .int i := by
  obtain ⟨i, hi, e⟩ := List.mem_map.mp h
  exact ⟨i, hi, e.symm⟩
theorem adj_some : ∀ (l : List Int) (i : Nat) (x : Int), (∀ j, j < i → l[j]? ≠ l[j + 1]?) → l[i]? = some x → l[i + 1]? = some x → adj l = some x
  | [], _, _, _, h, _ => by cases h
  | [a], i, x, _, _, h => by cases i <;> cases h
  | a :: b :: r, 0, x, _, h1, h2 => by
    cases h1
    cases h2
    show (if a = a then some a else adj (a :: r)) = some a
    rw [if_pos rfl]
  | a :: b :: r, i + 1, x, h, h1, h2 => by
    unfold adj
    have : a ≠ b := fun e => h 0 (Nat.succ_pos _) (by rw [e] <;> rfl)
    dsimp only
    rw [if_neg this]
    exact adj_some (b :: r) i x (fun j hj => h (j + 1) (Nat.succ_lt_succ hj)) h1 h2
theorem adj_none : ∀ l : List Int, (∀ j, j + 1 < l.length → l[j]? ≠ l[j + 1]?) → adj l = none
  | [], _ => rfl
  | [a], _ => rfl
  | a :: b :: r, h => by
    unfold adj
    have : a ≠ b := fun e => h 0 (by simp) (by rw [e] <;> rfl)
    dsimp only
    rw [if_neg this]
    exact adj_none (b :: r) fun j hj => h (j + 1) (Nat.succ_lt_succ hj)
theorem atI_nat {α : Type} {xs : List α} {i : Int} {k : Nat} {x : α} (e : i = k) (h : xs[k]? = some x) : atI xs i = some x := by
  have hk : k < xs.length := (List.getElem?_eq_some_iff.mp h).1
  unfold atI ixN
  rw [e, if_pos (by omega), if_pos (by omega)]
  exact h
end Bw
namespace Bw
open PySem PySem.Spec PyProof.Rows L2
theorem mod_id {n : Int} {ms : List Int} (h : ∀ m ∈ ms, 0 ≤ m ∧ m < n) : ms.map (fun m => m % n) = ms := by
  have : ms.map (fun m => m % n) = ms.map id := List.map_congr_left fun m hm => Int.emod_eq_of_lt (h m hm).1 (h m hm).2
  rw [this, List.map_id]
theorem lt_nodup {l : List Int} (h : l.Pairwise (· < ·)) : l.Nodup := h.imp fun h => Int.ne_of_lt h
theorem lt_le {l : List Int} (h : l.Pairwise (· < ·)) : l.Pairwise (· ≤ ·) := h.imp fun h => Int.le_of_lt h
theorem le_lt : ∀ {l : List Int}, l.Pairwise (· ≤ ·) → adj l = none → l.Pairwise (· < ·)
  | [], _, _ => .nil
  | [a], _, _ => by simp
  | a :: b :: r, h, e => by
    have e : (if a = b then some a else adj (b :: r)) = none := e
    by_cases q : a = b
    · rw [if_pos q] at e; cases e
    · rw [if_neg q] at e
      obtain ⟨h1, h2⟩ := List.pairwise_cons.mp h
      have ih := le_lt h2 e
      refine List.pairwise_cons.mpr ⟨fun c hc => ?_, ih⟩
      have hb := h1 b List.mem_cons_self
      rcases List.mem_cons.mp hc with rfl | hc
      · omega
      · have := (List.pairwise_cons.mp ih).1 c hc
        omega
/-- residues that differ make a lot -/
theorem once_ok {n : Int} {rs : List Int} (h1 : 1 ≤ n) (h2 : n ≤ 360) (hr : ∀ r ∈ rs, 0 ≤ r ∧ r < n) (e : rep rs = none) : LotOk n (srt rs) :=
  ⟨h1, h2, le_lt (srt_le rs) e, fun m hm => hr m (mem_srt.mp hm)⟩
theorem emod_rng {n : Int} (h : 1 ≤ n) (a : Int) : 0 ≤ a % n ∧ a % n < n := ⟨Int.emod_nonneg _ (by omega), Int.emod_lt_of_pos _ (by omega)⟩
theorem fmod_pos {n : Int} (h : 1 ≤ n) (a : Int) : a.fmod n = a % n := Int.fmod_eq_emod_of_nonneg a (by omega)
end Bw
namespace Bw
open PySem PySem.Spec PyProof.Rows L2
theorem le_nodup_lt {l : List Int} (h : l.Pairwise (· ≤ ·)) (n : l.Nodup) : l.Pairwise (· < ·) :=
  List.Pairwise.imp (fun {a b} (p : a ≤ b ∧ a ≠ b) => by omega) (h.and n)
theorem rep_none_nodup {rs : List Int} (e : rep rs = none) : rs.Nodup := (srt_perm rs).nodup_iff.mp (lt_nodup (le_lt (srt_le rs) e))
theorem adj_none_of_lt : ∀ {l : List Int}, l.Pairwise (· < ·) → adj l = none
  | [], _ => rfl
  | [a], _ => rfl
  | a :: b :: r, h => by
    obtain ⟨h1, h2⟩ := List.pairwise_cons.mp h
    show (if a = b then some a else adj (b :: r)) = none
    rw [if_neg (Int.ne_of_lt (h1 b List.mem_cons_self)), adj_none_of_lt h2]
theorem rep_none_of_nodup {rs : List Int} (n : rs.Nodup) : rep rs = none := adj_none_of_lt (le_nodup_lt (srt_le rs) (srt_nodup n))
/-- Lot(n, members): a new one -/
theorem made_lot {K : PySem.W.Frag} {H1 : Hp} {Qx : Addr → Hp → Prop} {E : XK} {l : Addr} {n : Int} {ms : List Int} (hl : SqL K H1 l (ms.map V.int)) (n1 : 1 ≤ n) (n2 : n ≤ 360) (hlen : ms.length ≤ 4000) (hnd : (ms.map fun m => m % n).Nodup)
    (hQ : ∀ H' a, Ext H1 H' → LotAt K H' a n (srt (ms.map fun m => m % n)) → Qx a H') :
    ∀ x dx, H1 x = none → H1 dx = none → dx ≠ x → sp_Lot_init K [.ref x, .int n, .ref l] (upd (upd H1 dx (.own x)) x (.ins (He.ga K "Lot") dx [])) (fun v H2 => v = .non ∧ Qx x H2) E := by
  intro x dx hx hdx hne
  have hx' : upd H1 dx (.own x) x = none := by rw [upd_ne (Ne.symm hne)]; exact hx
  have x0 : Ext H1 (upd (upd H1 dx (.own x)) x (.ins (He.ga K "Lot") dx [])) := ext_set (ext_new hdx) hx
  refine ⟨x, dx, l, n, ms, rfl, upd_same, sqL_ext x0 hl, n1, n2, hlen, hnd, fun H' lm hk h1 h2 => ⟨rfl, hQ H' x (fun b o e => ?_) ⟨?_, dx, lm, h1, h2⟩⟩⟩
  · exact hk b o (ne_of_none e hx) (x0 b o e)
  · refine ⟨n1, n2, le_nodup_lt (srt_le _) (srt_nodup hnd), fun m hm => ?_⟩
    obtain ⟨k, _, rfl⟩ := List.mem_map.mp (mem_srt.mp hm)
    exact emod_rng n1 k
/-- Lot(n, each_once(residues)) -/
theorem once_mk {K : PySem.W.Frag} {H2 : Hp} {Q : VK} {E : XK} {p : Addr} {n : Int} {rs : List Int} (hl : SqL K H2 p (rs.map V.int)) (n1 : 1 ≤ n) (n2 : n ≤ 360) (hlen : rs.length ≤ 200000) (hr : ∀ r ∈ rs, 0 ≤ r ∧ r < n) (D : Done K H2 Q E (onceOut n rs)) :
    sp_each_once K [.ref p] H2 (fun v H3 => ∀ x dx, H3 x = none → H3 dx = none → dx ≠ x → sp_Lot_init K [.ref x, .int n, v] (upd (upd H3 dx (.own x)) x (.ins (He.ga K "Lot") dx [])) (fun v H4 => v = .non ∧ Q (.ref x) H4) E) E := by
  refine ⟨p, rs, rfl, hl, hlen, ?_⟩
  unfold onceOut at D
  cases e : rep rs with
  | some h =>
    rw [e] at D
    exact D
  | none =>
    rw [e] at D
    have ok := once_ok n1 n2 hr e
    have em : (srt rs).map (fun m => m % n) = srt rs := mod_id ok.rng
    exact fun H' q x0 hq => made_lot (sqL_of hq) n1 n2 (by have := ok.len; omega) (by rw [em]; exact lt_nodup ok.asc) fun H3 a x1 L => D H3 a (x0.trans x1) (by rw [em, srt_of_le (lt_le ok.asc)] at L; exact L)
end Bw
namespace Bw
open PySem PySem.Spec PyProof.Rows L2
theorem tyL {K : PySem.W.Frag} {H : Hp} {p : Addr} {xs : List V} (h : H p = some (.lst xs)) : tyV K "list" (.ref p) H := .inl ⟨rfl, xs, sqL_of h⟩
theorem rep_ints (k : Nat) (m : Int) : (List.replicate k [V.int m]).flatten = (List.replicate k m).map V.int := by
  induction k with
  | zero => rfl
  | succ k ih => rw [List.replicate_succ, List.flatten_cons, ih, List.replicate_succ]; rfl
theorem map_get {ns : List Int} {k : Nat} {i : Int} (h : ns[k]? = some i) : (ns.map V.int)[k]? = some (.int i) := by rw [List.getElem?_map, h] <;> rfl
theorem pow_pos_lt {m : Int} (h : 1 ≤ m ∧ m < 2 ^ 64) : CDivW (0 : Int) m := wide_div (b := 64) (by omega) (by omega) (by decide) (by decide)
theorem cdivW {i m : Int} (h : 1 ≤ m ∧ m < 2 ^ 64) : CDivW i m := wide_div (b := 64) (by omega) (by omega) (by decide) (by decide)
theorem cmulW {i j : Int} (h : i.natAbs < 2 ^ 200) (h' : j.natAbs < 2 ^ 200) : CMulW i j := wide_mul (a := 200) (b := 200) h h' (by decide) (by decide) (by decide)
end Bw
namespace Bw
open PySem PySem.Spec PyProof.Rows L2
theorem atI_map {fl : List Int} {i : Int} (h0 : 0 ≤ i) (h : i < fl.length) : ∃ f ∈ fl, atI (fl.map V.int) i = some (.int f) := by
  have hk : i.toNat < fl.length := by omega
  exact ⟨fl[i.toNat], List.getElem_mem hk, atI_nat (k := i.toNat) (by omega) (map_get (List.getElem?_eq_getElem hk))⟩
end Bw
namespace Bw
open PySem PySem.Spec PyProof.Rows L2
/-! ### tests whose answer is known -/
section
variable {K : PySem.W.Frag} {σ : L2.St} {H : Hp} {i j : Nat} {x y : V} {b : Bool} {c : TT} {t u v : TS} {D : Ends} {T T' : String}
theorem seqF (hc : ∀ R : Bool → Hp → Prop, R false H → c σ H R) (q : v D σ H) : tSeq (tIfS c t tNext) v D σ H := hc _ (iteF q)
theorem seqT (hc : ∀ R : Bool → Hp → Prop, R true H → c σ H R) (q : t { D with nx := v D } σ H) : tSeq (tIfS c t u) v D σ H := hc _ (iteT q)
theorem seqE (hc : ∀ R : Bool → Hp → Prop, R false H → c σ H R) (q : u { D with nx := v D } σ H) : tSeq (tIfS c t u) v D σ H := hc _ (iteF q)
theorem ifT (hc : ∀ R : Bool → Hp → Prop, R true H → c σ H R) (q : t D σ H) : tIfS c t u D σ H := hc _ (iteT q)
theorem ifF (hc : ∀ R : Bool → Hp → Prop, R false H → c σ H R) (q : u D σ H) : tIfS c t u D σ H := hc _ (iteF q)
theorem no_b (h : σ[i]? = some (some x)) (hb : decide (x = .non) = b) (R : Bool → Hp → Prop) (r : R b H) : tTest (tOp rIsNo (tVar i) (tC .non)) σ H R := ⟨_, h, rfl, _, congrArg V.bl hb, r⟩
theorem isl_b (h : σ[i]? = some (some x)) {z : Bool} (hb : decide (x = .bl z) = b) (R : Bool → Hp → Prop) (r : R b H) : tTest (tOp rIsL (tVar i) (tC (.bl z))) σ H R := ⟨_, h, z, rfl, _, congrArg V.bl hb, r⟩
theorem isi_v (h : σ[i]? = some (some x)) (t : TyX K H x (.type T')) (k : PySem.W.kitOne K (.type T') (.type T) = some b) (R : VK) (r : R (.bl b) H) : tCB (rIsi K) (tCons (tVar i) (tCons (tC (.ty T)) tNil)) σ H R := ⟨_, h, _, _, _, _, b, rfl, .ty _, t, k, r⟩
theorem isi_t (h : σ[i]? = some (some x)) (t : TyX K H x (.type T')) (k : PySem.W.kitOne K (.type T') (.type T) = some b) (R : Bool → Hp → Prop) (r : R b H) : tB (tCB (rIsi K) (tCons (tVar i) (tCons (tC (.ty T)) tNil))) σ H R := isi_v h t k _ ⟨_, rfl, r⟩
theorem not_b {z : Bool} (hc : ∀ R : Bool → Hp → Prop, R z H → c σ H R) (hb : (!z) = b) (R : Bool → Hp → Prop) (r : R b H) : tNot c σ H R := hc _ (by rw [hb]; exact r)
theorem or_F {c' : TT} (hc : ∀ R : Bool → Hp → Prop, R false H → c σ H R) (hc' : ∀ R : Bool → Hp → Prop, R b H → c' σ H R) (R : Bool → Hp → Prop) (r : R b H) : tOr c c' σ H R := hc _ (iteF (hc' _ r))
theorem eq_b {ta tb : TE} (ha : ∀ Q : VK, Q x H → ta σ H Q) (hb : ∀ Q : VK, Q y H → tb σ H Q) (hs : scal x y = true) (hx : decide (x = y) = b) (R : Bool → Hp → Prop) (r : R b H) : tTest (tOp rEq ta tb) σ H R := ha _ (hb _ ⟨hs, _, congrArg V.bl hx, r⟩)
theorem ne_b {ta tb : TE} (ha : ∀ Q : VK, Q x H → ta σ H Q) (hb : ∀ Q : VK, Q y H → tb σ H Q) (hs : scal x y = true) (hx : (!decide (x = y)) = b) (R : Bool → Hp → Prop) (r : R b H) : tTest (tOp rNe ta tb) σ H R := ha _ (hb _ ⟨hs, _, congrArg V.bl hx, r⟩)
theorem len_v {a : Addr} {xs : List V} (h : σ[i]? = some (some (.ref a))) (hs : SqL K H a xs ∨ SqT K H a xs) (Q : VK) (q : Q (.int (xs.length : Nat)) H) : tCB (rLenQ K) (tCons (tVar i) tNil) σ H Q := ⟨_, h, a, xs, rfl, hs, q⟩
end
end Bw
namespace Bw
open PySem PySem.Spec PyProof.Rows L2
/-! ### what is known in every heap that grows from here -/
def KB (c : TT) (σ : L2.St) (H : Hp) (b : Bool) : Prop := ∀ R : Bool → Hp → Prop, (∀ H1, Ext H H1 → R b H1) → c σ H R
def KV (t : TE) (σ : L2.St) (H : Hp) (v : V) : Prop := ∀ Q : VK, (∀ H1, Ext H H1 → Q v H1) → t σ H Q
section
variable {K : PySem.W.Frag} {σ : L2.St} {H : Hp} {i : Nat} {x y : V} {b z : Bool} {c c' : TT} {t u v : TS} {D : Ends} {ta tb : TE} {W : Value} {Wo : WX} {o : Option Nat} {ts : Suite} {l : List (Value × Option Nat × Suite)} {cls : Value} {d : Option Addr}
theorem KB.seqF (h : KB c σ H false) (q : ∀ H1, Ext H H1 → v D σ H1) : tSeq (tIfS c t tNext) v D σ H := h _ fun H1 e => iteF (q H1 e)
theorem KB.not (h : KB c σ H z) (hb : (!z) = b) : KB (tNot c) σ H b := fun R r => h _ fun H1 e => by rw [hb]; exact r H1 e
theorem KB.orF (h : KB c σ H false) (h' : ∀ H1, Ext H H1 → KB c' σ H1 b) : KB (tOr c c') σ H b := fun R r => h _ fun H1 e => iteF (h' H1 e _ fun H2 e2 => r H2 (e.trans e2))
theorem KV.test (h : KV ta σ H (.bl b)) : KB (tB ta) σ H b := fun R r => h _ fun H1 e => ⟨_, rfl, r H1 e⟩
theorem KV.and (h : KV ta σ H (.bl true)) (h' : ∀ H1, Ext H H1 → KV tb σ H1 x) : KV (tAndV ta tb) σ H x := fun Q q => h _ fun H1 e => ⟨true, rfl, iteT (h' H1 e _ fun H2 e2 => q H2 (e.trans e2))⟩
theorem KB.of (h : ∀ R : Bool → Hp → Prop, R b H → c σ H R) : KB c σ H b := fun R r => h R (r H (Ext.refl H))
theorem KV.of (h : ∀ Q : VK, Q x H → ta σ H Q) : KV ta σ H x := fun R r => h R (r H (Ext.refl H))
theorem isi_own {C : Addr} (h : σ[i]? = some (some x)) (t : TyX K H x (.ref C)) (R : Bool → Hp → Prop) (r : R true H) : tB (tCB (rIsi K) (tCons (tVar i) (tCons (tC (.ref C)) tNil))) σ H R :=
  ⟨_, h, _, _, _, _, true, rfl, .own C, t, by unfold PySem.W.kitOne; rw [if_pos (by simp)], _, rfl, r⟩
theorem wH_yes (e : PySem.W.exmOne K cls W = some true) (q : ∀ a, H a = none → suiteAt o ts cls d D σ H a) : wH K Wo D ((W, o, ts) :: l) cls d σ H := ⟨true, e, fun _ => q, fun z => by cases z⟩
theorem wH_no (e : PySem.W.exmOne K cls W = some false) (q : wH K Wo D l cls d σ H) : wH K Wo D ((W, o, ts) :: l) cls d σ H := ⟨false, e, fun z => (by cases z), fun _ => q⟩
end
end Bw
namespace Bw
open PySem PySem.Spec PyProof.Rows L2
theorem copies_rng {n t : Int} {ms : List Int} (h : ∀ m ∈ ms, 0 ≤ m ∧ m < n) (n1 : 1 ≤ n) (t0 : 0 ≤ t) : ∀ m ∈ copies n ms t, 0 ≤ m ∧ m < n * t := by
  intro m hm
  obtain ⟨lap, hl, hm⟩ := List.mem_flatMap.mp hm
  obtain ⟨k, hk, rfl⟩ := List.mem_map.mp hm
  have hl := List.mem_range.mp hl
  have := h k hk
  have e1 : 0 ≤ (lap : Int) * n := Int.mul_nonneg (by omega) (by omega)
  have e2 : ((lap : Int) + 1) * n ≤ t * n := Int.mul_le_mul_of_nonneg_right (by omega) (by omega)
  rw [Int.add_mul, Int.one_mul] at e2
  rw [Int.mul_comm n t]
  omega
theorem copies_asc {n t : Int} {ms : List Int} (h : ∀ m ∈ ms, 0 ≤ m ∧ m < n) (n1 : 1 ≤ n) (a : ms.Pairwise (· < ·)) : (copies n ms t).Pairwise (· < ·) := by
  unfold copies
  refine List.pairwise_flatMap.mpr ⟨fun lap _ => ?_, ?_⟩
  · exact List.pairwise_map.mpr (a.imp fun {x y} q => by omega)
  · refine List.pairwise_lt_range.imp fun {i j} hij x hx y hy => ?_
    obtain ⟨k, hk, rfl⟩ := List.mem_map.mp hx
    obtain ⟨k', hk', rfl⟩ := List.mem_map.mp hy
    have := h k hk
    have := h k' hk'
    have e2 : ((i : Int) + 1) * n ≤ (j : Int) * n := Int.mul_le_mul_of_nonneg_right (by omega) (by omega)
    rw [Int.add_mul, Int.one_mul] at e2
    omega
theorem copies_len {n t : Int} {ms : List Int} (h : LotOk n ms) (t1 : n * t ≤ 360) (t0 : 0 ≤ t) : (copies n ms t).length ≤ 360 := by
  have := asc_len _ 0 (n * t) (copies_asc (t := t) h.rng h.n1 h.asc) (copies_rng h.rng h.n1 t0)
  omega
end Bw
namespace Bw
theorem iteT_of {b : Bool} {A B : Prop} (h : b = true) (a : A) : if b = true then A else B := by rw [if_pos h]; exact a
theorem iteF_of {b : Bool} {A B : Prop} (h : b = false) (a : B) : if b = true then A else B := by rw [h, if_neg Bool.false_ne_true]; exact a
end Bw
namespace Bw
open PySem PySem.Spec PyProof.Rows L2
theorem rising_push {n m : Int} {ms : List Int} (h : Rising m ms) (m0 : 0 ≤ m) (hm : m < n) : Rising n (ms ++ [m]) := by
  refine ⟨List.pairwise_append.mpr ⟨h.1, List.pairwise_singleton _ _, fun x hx y hy => ?_⟩, fun x hx => ?_⟩
  · rw [List.mem_singleton.mp hy]
    exact (h.2 x hx).2
  · rcases List.mem_append.mp hx with hx | hx
    · have := h.2 x hx
      omega
    · rw [List.mem_singleton.mp hx]
      exact ⟨m0, hm⟩
theorem rising_mono {n m : Int} {ms : List Int} (h : Rising m ms) (hm : m ≤ n) : Rising n ms := ⟨h.1, fun x hx => by have := h.2 x hx; omega⟩
theorem rising_len {n : Int} {ms : List Int} (h : Rising n ms) : ms.length ≤ n.toNat := by
  have := asc_len ms 0 n h.1 h.2
  omega
theorem rising_filter {n : Int} {ms : List Int} (h : Rising n ms) (p : Int → Bool) : Rising n (ms.filter p) := ⟨h.1.sublist List.filter_sublist, fun m hm => h.2 m (List.mem_filter.mp hm).1⟩
end Bw
namespace Bw
open PySem PySem.Spec PyProof.Rows L2
/-- counting: how often each hour comes up -/
theorem adj_first : ∀ (l : List Int) (h : Int), l.Pairwise (· ≤ ·) → 2 ≤ l.count h → (∀ k, k < h → l.count k ≤ 1) → adj l = some h
  | [], h, _, h2, _ => by simp at h2
  | [a], h, _, h2, _ => by
    rw [List.count_cons, List.count_nil] at h2
    split at h2 <;> omega
  | a :: b :: r, h, hp, h2, hk => by
    obtain ⟨h1, h3⟩ := List.pairwise_cons.mp hp
    show (if a = b then some a else adj (b :: r)) = some h
    by_cases e : a = b
    · rw [if_pos e]
      subst e
      have ca : 2 ≤ (a :: a :: r).count a := by rw [List.count_cons, List.count_cons]; simp
      by_cases q : a < h
      · have := hk a q
        omega
      · have : h ∈ a :: a :: r := List.count_pos_iff.mp (by omega)
        have hle : a ≤ h := by
          rcases List.mem_cons.mp this with rfl | hm
          · exact Int.le_refl _
          · exact h1 h hm
        rw [show h = a by omega]
    · rw [if_neg e]
      have na : h ≠ a := fun z => by
        subst z
        have : (h :: b :: r).count h = 1 := by
          rw [List.count_cons]
          have : (b :: r).count h = 0 := List.count_eq_zero.mpr fun hm => by
            have q := h1 b List.mem_cons_self
            have : ∀ y ∈ b :: r, b ≤ y := fun y hy => by
              rcases List.mem_cons.mp hy with rfl | hy
              · exact Int.le_refl _
              · exact (List.pairwise_cons.mp h3).1 y hy
            have := this h hm
            omega
          simp [this]
        omega
      refine adj_first (b :: r) h h3 ?_ fun k hk' => ?_
      · rw [List.count_cons, if_neg (by simpa using Ne.symm na)] at h2
        exact h2
      · have := hk k hk'
        rw [List.count_cons] at this
        omega
theorem rep_first {rs : List Int} {h : Int} (h2 : 2 ≤ rs.count h) (hk : ∀ k, k < h → rs.count k ≤ 1) : rep rs = some h := by
  refine adj_first _ _ (srt_le rs) ?_ fun k hk' => ?_
  · rw [(srt_perm rs).count_eq]; exact h2
  · rw [(srt_perm rs).count_eq]; exact hk k hk'
theorem rep_none_of_count {rs : List Int} (hk : ∀ k, rs.count k ≤ 1) : rep rs = none := rep_none_of_nodup (List.nodup_iff_count.mpr hk)
theorem set_get {ns : List Int} {k j : Nat} {v : Int} (h : k < ns.length) : (ns.set k v)[j]? = if j = k then some v else ns[j]? := by
  rw [List.getElem?_set]
  by_cases e : k = j
  · subst e
    rw [if_pos rfl, if_pos h, if_pos rfl]
  · rw [if_neg e, if_neg (Ne.symm e)]
end Bw

namespace Bw
open PySem PySem.Spec PyProof.Rows L2 ItX
/-! ### further deeds on lots, the meetings -/
def ring (n : Int) : List Int := (List.range n.toNat).map fun i : Nat => (i : Int)
theorem mem_ring {n x : Int} : x ∈ ring n ↔ 0 ≤ x ∧ x < n := by
  unfold ring
  constructor
  · intro h
    obtain ⟨k, hk, rfl⟩ := List.mem_map.mp h
    have := List.mem_range.mp hk
    omega
  · intro h
    exact List.mem_map.mpr ⟨x.toNat, List.mem_range.mpr (by omega), by omega⟩
theorem ring_asc (n : Int) : (ring n).Pairwise (· < ·) := List.pairwise_map.mpr (List.pairwise_lt_range.imp fun h => by omega)
theorem ring_len (n : Int) : (ring n).length = n.toNat := by simp [ring]
theorem rng_ring (n : Int) : rngV 0 n.toNat = (ring n).map V.int := by
  unfold rngV ring
  rw [List.map_map]
  simp only [Int.zero_add]
  rfl
def invL (n : Int) (ms : List Int) : List Int := (ring n).filter fun h => !decide (h ∈ ms)
def pairsD (n : Int) (xs ys : List Int) : List Int := xs.flatMap fun x => ys.map fun y => (x - y) % n
/-- how often each hour comes up -/
def tally (n : Int) (zs : List Int) : List Int := (ring n).map fun d => ((zs.count d : Nat) : Int)
def meetL (n : Int) (xs ys : List Int) : List Int := tally n (pairsD n xs ys)
theorem inv_ok {n : Int} {ms : List Int} (h : LotOk n ms) : LotOk n (invL n ms) := ⟨h.n1, h.n2, (ring_asc n).sublist List.filter_sublist, fun m hm => mem_ring.mp (List.mem_filter.mp hm).1⟩
theorem moved_ok {n : Int} {rs : List Int} (h1 : 1 ≤ n) (h2 : n ≤ 360) (hr : ∀ r ∈ rs, 0 ≤ r ∧ r < n) (e : rs.Nodup) : LotOk n (srt rs) := ⟨h1, h2, le_nodup_lt (srt_le rs) (srt_nodup e), fun m hm => hr m (mem_srt.mp hm)⟩
def sp_Lot_lshift (K : PySem.W.Frag) : Sp := fun vs H Q E => ∃ (a : Addr) (n k : Int) (ms : List Int), vs = [.ref a, .int k] ∧ LotAt K H a n ms ∧ ∀ H' b, Ext H H' → LotAt K H' b n (srt (ms.map fun m => (m + k) % n)) → Q (.ref b) H'
def sp_Lot_rshift (K : PySem.W.Frag) : Sp := fun vs H Q E => ∃ (a : Addr) (n k : Int) (ms : List Int), vs = [.ref a, .int k] ∧ LotAt K H a n ms ∧ ∀ H' b, Ext H H' → LotAt K H' b n (srt (ms.map fun m => (m - k) % n)) → Q (.ref b) H'
def sp_Lot_neg (K : PySem.W.Frag) : Sp := fun vs H Q E => ∃ (a : Addr) (n : Int) (ms : List Int), vs = [.ref a] ∧ LotAt K H a n ms ∧ ∀ H' b, Ext H H' → LotAt K H' b n (srt (ms.map fun m => (-m) % n)) → Q (.ref b) H'
def sp_Lot_invert (K : PySem.W.Frag) : Sp := fun vs H Q E => ∃ (a : Addr) (n : Int) (ms : List Int), vs = [.ref a] ∧ LotAt K H a n ms ∧ ∀ H' b, Ext H H' → LotAt K H' b n (invL n ms) → Q (.ref b) H'
def sp_meetings (K : PySem.W.Frag) : Sp := fun vs H Q E => ∃ (a b : Addr) (n : Int) (ms ms' : List Int), vs = [.ref a, .ref b] ∧ LotAt K H a n ms ∧ LotAt K H b n ms' ∧ ∀ H' p, Ext H H' → H' p = some (.lst ((meetL n ms ms').map V.int)) → Q (.ref p) H'
def sp_differences (K : PySem.W.Frag) : Sp := fun vs H Q E => ∃ (a : Addr) (n : Int) (ms : List Int), vs = [.ref a] ∧ LotAt K H a n ms ∧ ∀ H' p, Ext H H' → H' p = some (.lst ((meetL n ms ms).map V.int)) → Q (.ref p) H'
/-! ### counting -/
structure CntRep (n : Int) (zs cs : List Int) : Prop where
  len : cs.length = n.toNat
  at_ : ∀ k : Nat, k < n.toNat → cs[k]? = some ((zs.count (k : Int) : Nat) : Int)
theorem CntRep.zero (n : Int) : CntRep n [] (List.replicate n.toNat 0) := ⟨List.length_replicate, fun k hk => by rw [List.getElem?_replicate, if_pos hk]; simp⟩
theorem set_get' {ns : List Int} {k j : Nat} {v : Int} (h : k < ns.length) : (ns.set k v)[j]? = if j = k then some v else ns[j]? := by
  rw [List.getElem?_set]
  by_cases e : k = j
  · subst e
    rw [if_pos rfl, if_pos h, if_pos rfl]
  · rw [if_neg e, if_neg (Ne.symm e)]
theorem CntRep.step {n w : Int} {zs cs : List Int} (h : CntRep n zs cs) (h0 : 0 ≤ w) (h1 : w < n) : CntRep n (zs ++ [w]) (cs.set w.toNat (((zs.count ((w.toNat : Nat) : Int) : Nat) : Int) + 1)) := by
  have hw : ((w.toNat : Nat) : Int) = w := by omega
  refine ⟨by rw [List.length_set, h.len], fun k hk => ?_⟩
  rw [set_get' (by rw [h.len]; omega), List.count_append]
  by_cases ek : k = w.toNat
  · rw [if_pos ek, ek, hw, List.count_singleton, if_pos (by simp)]
    simp
  · rw [if_neg ek, h.at_ k hk, List.count_singleton, if_neg (by simp; omega)]
    simp
theorem CntRep.tally {n : Int} {zs cs : List Int} (h : CntRep n zs cs) : cs = tally n zs := by
  refine List.ext_getElem? fun k => ?_
  unfold Bw.tally ring
  rw [List.map_map, List.getElem?_map]
  by_cases hk : k < n.toNat
  · rw [h.at_ k hk, List.getElem?_range hk]
    rfl
  · rw [List.getElem?_eq_none (by rw [h.len]; omega), List.getElem?_eq_none (by simp; omega)]
    rfl
end Bw
namespace Bw
open PySem PySem.Spec PyProof.Rows L2
theorem nodup_map_on {α β : Type} {f : α → β} : ∀ {l : List α}, l.Nodup → (∀ a ∈ l, ∀ b ∈ l, f a = f b → a = b) → (l.map f).Nodup
  | [], _, _ => .nil
  | a :: r, h, q => by
    obtain ⟨h1, h2⟩ := List.nodup_cons.mp h
    rw [List.map_cons]
    refine List.nodup_cons.mpr ⟨fun hm => ?_, nodup_map_on h2 fun x hx y hy => q x (List.mem_cons_of_mem _ hx) y (List.mem_cons_of_mem _ hy)⟩
    obtain ⟨b, hb, e⟩ := List.mem_map.mp hm
    have := q b (List.mem_cons_of_mem _ hb) a List.mem_cons_self e
    rw [this] at hb
    exact h1 hb
theorem emod_inj {n a b : Int} (ha : 0 ≤ a ∧ a < n) (hb : 0 ≤ b ∧ b < n) (e : (a - b) % n = 0) : a = b := by
  obtain ⟨k, hk⟩ := Int.dvd_of_emod_eq_zero e
  have h1 : -n < n * k := by omega
  have h2 : n * k < n := by omega
  have n0 : 0 < n := by omega
  have k1 : -1 < k := by
    refine Int.lt_of_mul_lt_mul_left (a := n) ?_ (by omega)
    omega
  have k2 : k < 1 := by
    refine Int.lt_of_mul_lt_mul_left (a := n) ?_ (by omega)
    omega
  have : k = 0 := by omega
  rw [this] at hk
  omega
theorem move_nodup {n k : Int} {ms : List Int} (ok : LotOk n ms) : (ms.map fun m => (m + k) % n).Nodup := nodup_map_on (lt_nodup ok.asc) fun a ha b hb e => emod_inj (ok.rng a ha) (ok.rng b hb) (by
  have := Int.emod_emod_of_dvd (a + k) (Int.dvd_refl n)
  have h : (a + k - (b + k)) % n = 0 := Int.emod_eq_emod_iff_emod_sub_eq_zero.mp e
  rw [show a + k - (b + k) = a - b by omega] at h
  exact h)
theorem neg_nodup {n : Int} {ms : List Int} (ok : LotOk n ms) : (ms.map fun m => (-m) % n).Nodup := nodup_map_on (lt_nodup ok.asc) fun a ha b hb e => (emod_inj (ok.rng b hb) (ok.rng a ha) (by
  have h : (-a - -b) % n = 0 := Int.emod_eq_emod_iff_emod_sub_eq_zero.mp e
  rw [show -a - -b = b - a by omega] at h
  exact h)).symm
theorem flat_ints : ∀ ns : List Int, (ns.map V.int).all flatV = true
  | [] => rfl
  | _ :: r => by rw [List.map_cons, List.all_cons, flat_ints r]; rfl
theorem inV_ints {i : Int} : ∀ {ns : List Int}, inV (.int i) (ns.map V.int) = decide (i ∈ ns)
  | [] => by simp [inV]
  | n :: r => by
    have ih := inV_ints (i := i) (ns := r)
    unfold inV at ih ⊢
    rw [List.map_cons, List.any_cons, ih]
    have e : eqV (.int n) (.int i) = decide (i = n) := by
      show decide (n = i) = _
      exact decide_eq_decide.mpr ⟨Eq.symm, Eq.symm⟩
    rw [e]
    simp
theorem fm_notin (ms : List Int) : ∀ l : List Int, (l.filterMap fun i => if i ∈ ms then none else some i) = l.filter fun h => !decide (h ∈ ms)
  | [] => rfl
  | a :: r => by
    rw [List.filterMap_cons, List.filter_cons, fm_notin ms r]
    by_cases h : a ∈ ms <;> simp [h]
end Bw
namespace Bw
open PySem PySem.Spec PyProof.Rows L2
/-- elements that may lay new things -/
theorem lcA {J : It} {xs : List V} {i0 : Nat} {te : TE} {σ : L2.St} {H1 : Hp} {D : Addr} {Qd : Hp → Prop} (f : V → V) (hD : H1 D = none) (S : ∀ H, Ext H1 H → SrcAt J xs H) (hn : xs.length ≤ sizeLine)
    (step : ∀ x ∈ xs, ∀ H, Ext H1 H → ∀ R : V → Hp → Prop, (∀ H2, Ext H H2 → R (f x) H2) → te ((wipe σ [i0]).set i0 (some x)) H R) (hd : ∀ H', Ext H1 H' → H' D = some (.lst (xs.map f)) → Qd H') :
    ∃ W : Nat → Nat → Hp → Prop, (∃ m, W 0 m (upd H1 D (.lst []))) ∧ ∀ i m H, W i m H →
      (J.stop i H ∧ Qd H) ∨ (J.go i H ∧ ∃ Nx : Hp → Prop, (∀ H', Nx H' → ∃ m', m' < m ∧ W (i + 1) m' H') ∧ ∀ x H', J.yld i H x H' → gName i0 x (wipe σ [i0]) H' fun σ2 H2 => wipe σ2 [i0] = wipe σ [i0] ∧ tYes σ2 H2 fun b H3 =>
        if b = true then te σ2 H3 fun y H4 => ∃ acc, H4 D = some (.lst acc) ∧ acc.length < sizeLine ∧ Nx (upd H4 D (.lst (acc ++ [y]))) else Nx H3) := by
  refine lcS (fun i H => Ext H1 H ∧ H D = some (.lst ((xs.take i).map f))) ⟨ext_new hD, by simp [upd_same]⟩ (fun i H _ e => S _ e.1) (fun i x H e p => ?_) (fun H e => hd H e.1 (by rw [List.take_length] at e; exact e.2))
  refine ⟨by simp [wipe], ?_⟩
  dsimp only [tYes]
  rw [if_pos rfl]
  have hlt := (List.getElem?_eq_some_iff.mp e).1
  refine step x (List.mem_of_getElem? e) H p.1 _ fun H2 x2 => ⟨_, x2 _ _ p.2, ?_, ext_set (p.1.trans x2) hD, ?_⟩
  · rw [List.length_map, List.length_take]
    omega
  · rw [upd_same, List.take_add_one, e, List.map_append]
    rfl
theorem fm_if (p : Int → Prop) [DecidablePred p] : ∀ l : List Int, (l.filterMap fun i => if p i then some i else none) = l.filter fun i => decide (p i)
  | [] => rfl
  | a :: r => by
    rw [List.filterMap_cons, List.filter_cons, fm_if p r]
    by_cases h : p a <;> simp [h]
def ones (n : Int) : List Int := (List.range n.toNat).map fun i : Nat => 1 + (i : Int)
theorem rng_ones (n : Int) : rngV 1 (n + 1 - 1).toNat = (ones n).map V.int := by
  unfold rngV ones
  rw [List.map_map, show n + 1 - 1 = n by omega]
  rfl
theorem mem_ones {n x : Int} : x ∈ ones n ↔ 1 ≤ x ∧ x ≤ n := by
  unfold ones
  constructor
  · intro h
    obtain ⟨k, hk, rfl⟩ := List.mem_map.mp h
    have := List.mem_range.mp hk
    omega
  · intro h
    exact List.mem_map.mpr ⟨(x - 1).toNat, List.mem_range.mpr (by omega), by omega⟩
theorem ones_len (n : Int) : (ones n).length = n.toNat := by simp [ones]
theorem atI_getD {fl : List Int} {i d : Int} (h0 : 0 ≤ i) (h : i < fl.length) : atI (fl.map V.int) i = some (.int (fl[i.toNat]?.getD d)) := by
  have hk : i.toNat < fl.length := by omega
  rw [List.getElem?_eq_getElem hk]
  exact atI_nat (k := i.toNat) (by omega) (map_get (List.getElem?_eq_getElem hk))
end Bw
namespace Bw
open PySem PySem.Spec PyProof.Rows L2
theorem fI_hit {g : Int → Option Int} {i j : Int} (h : g i = some j) : fI g (.int i) = some (.int j) := by show (g i).map V.int = _; rw [h]; rfl
theorem fI_miss {g : Int → Option Int} {i : Int} (h : g i = none) : fI g (.int i) = none := by show (g i).map V.int = _; rw [h]; rfl
end Bw

namespace Bw
open PySem PySem.Spec PyProof.Rows L2
/-! ### the law's own words of k05 -/
def gcdI (a b : Int) : Int := (Nat.gcd a.toNat b.toNat : Nat)
def partsL (n : Int) : List Int := ((List.range n.toNat).map fun i : Nat => 1 + (i : Int)).filter fun d => decide (n % d = 0)
def Spl (n : Int) (ms : List Int) : Prop := ms.Pairwise (· < ·) ∧ ∀ m ∈ ms, 0 ≤ m ∧ m < n
/-- counts of the members, as the law counts them -/
def cnt1 (n : Int) (ms : List Int) (d : Int) : Nat := ms.countP fun b => decide ((b + d) % n ∈ ms)
def countsL (n : Int) (ms : List Int) : List Int := (ring n).map fun d => ((cnt1 n ms d : Nat) : Int)
def foldL (n : Int) (one two : List Int) : List Int := (ring n).map fun d => ((ring n).map fun e => (one[e.toNat]?.getD 0) * (two[((d - e) % n).toNat]?.getD 0)).sum
def factorOf (n b : Int) : Int := let u := ((List.range n.toNat).map fun i : Nat => 1 + (i : Int)).filter fun t => decide (gcdI t n = 1); (u[(b % (u.length : Nat)).toNat]?.getD 0) + n * (b - 180)
def shiftOf (b : Int) : Int := (b - 180) * 10 ^ 9 + b
def partOf (n b : Int) : Int := (partsL n)[(b % ((partsL n).length : Nat)).toNat]?.getD 1
def kindOf' (n k b : Int) : Int := if k = 5 ∧ n * (2 + b % 2) > 60 then 2 else k
def deedOut (n : Int) (ms : List Int) (k b : Int) : Out :=
  if k = 0 then .lot n (srt (ms.map fun m => (m + shiftOf b) % n)) else if k = 1 then .lot n (srt (ms.map fun m => (m - shiftOf b) % n)) else if k = 2 then .lot n (srt (ms.map fun m => (-m) % n)) else if k = 3 then .lot n (invL n ms)
  else if k = 4 then mulOut n ms (factorOf n b) else if k = 5 then powOut n ms (2 + b % 2) else modOut n ms (partOf n b)
def sp_l_gcd (K : PySem.W.Frag) : Sp := fun vs H Q E => ∃ (a b : Int), vs = [.int a, .int b] ∧ 0 ≤ a ∧ 0 ≤ b ∧ Q (.int (gcdI a b)) H
def sp_l_parts (K : PySem.W.Frag) : Sp := fun vs H Q E => ∃ (n : Int), vs = [.int n] ∧ 1 ≤ n ∧ n ≤ 1000 ∧ ∀ H' p, Ext H H' → H p = none → H' p = some (.lst ((partsL n).map V.int)) → Q (.ref p) H'
def sp_l_lots (K : PySem.W.Frag) : Sp := fun vs H Q E => ∃ (a : Addr) (ns : List Int) (n i f : Int), vs = [.ref a, .int n, .int i, .int f] ∧ SqL K H a (ns.map V.int) ∧ 1 ≤ n ∧ n ≤ 360 ∧
  ∀ H' p x y (ms ms' : List Int), Ext H H' → H' p = some (.tup [.ref x, .ref y]) → H' x = some (.lst (ms.map V.int)) → H' y = some (.lst (ms'.map V.int)) → Spl n ms → Spl n ms' → Q (.ref p) H'
def sp_l_counts (K : PySem.W.Frag) : Sp := fun vs H Q E => ∃ (a : Addr) (n : Int) (ms : List Int), vs = [.ref a, .int n] ∧ H a = some (.lst (ms.map V.int)) ∧ LotOk n ms ∧ ∀ H' p, Ext H H' → H' p = some (.lst ((countsL n ms).map V.int)) → Q (.ref p) H'
def sp_l_met (K : PySem.W.Frag) : Sp := fun vs H Q E => ∃ (a : Addr) (n : Int) (rs : List Int), vs = [.ref a, .int n] ∧ SqL K H a (rs.map V.int) ∧ 0 ≤ n ∧ n ≤ 1000 ∧ (∀ r ∈ rs, 0 ≤ r ∧ r < n) ∧ ∀ H' p, Ext H H' → H' p = some (.lst ((tally n rs).map V.int)) → Q (.ref p) H'
def sp_l_fold (K : PySem.W.Frag) : Sp := fun vs H Q E => ∃ (a b : Addr) (n : Int) (xs ys : List Int), vs = [.ref a, .ref b, .int n] ∧ H a = some (.lst (xs.map V.int)) ∧ H b = some (.lst (ys.map V.int)) ∧ 1 ≤ n ∧ n ≤ 1000 ∧ xs.length = n.toNat ∧ ys.length = n.toNat ∧ (∀ x ∈ xs, 0 ≤ x ∧ x < 100000) ∧ (∀ x ∈ ys, 0 ≤ x ∧ x < 100000) ∧
  ∀ H' p, Ext H H' → H' p = some (.lst ((foldL n xs ys).map V.int)) → Q (.ref p) H'
def sp_l_factor (K : PySem.W.Frag) : Sp := fun vs H Q E => ∃ (n b : Int), vs = [.int n, .int b] ∧ 1 ≤ n ∧ n ≤ 1000 ∧ 0 ≤ b ∧ b < 1000 ∧ ∀ H', Ext H H' → Q (.int (factorOf n b)) H'
def sp_l_shift (K : PySem.W.Frag) : Sp := fun vs H Q E => ∃ (b : Int), vs = [.int b] ∧ 0 ≤ b ∧ b < 1000 ∧ Q (.int (shiftOf b)) H
def sp_l_part (K : PySem.W.Frag) : Sp := fun vs H Q E => ∃ (n b : Int), vs = [.int n, .int b] ∧ 1 ≤ n ∧ n ≤ 1000 ∧ ∀ H', Ext H H' → Q (.int (partOf n b)) H'
def sp_l_kind (K : PySem.W.Frag) : Sp := fun vs H Q E => ∃ (n k b : Int), vs = [.int n, .int k, .int b] ∧ 1 ≤ n ∧ n ≤ 1000 ∧ Q (.int (kindOf' n k b)) H
def sp_l5_done (K : PySem.W.Frag) : Sp := fun vs H Q E => ∃ (a : Addr) (n k b : Int) (ms : List Int), vs = [.ref a, .int n, .int k, .int b] ∧ LotAt K H a n ms ∧ 0 ≤ k ∧ k < 7 ∧ 0 ≤ b ∧ b < 360 ∧ Done K H Q E (deedOut n ms k b)
def sp_l5_sum (K : PySem.W.Frag) : Sp := fun vs H Q E => ∃ (a b : Addr) (n : Int) (ms ms' : List Int), vs = [.ref a, .ref b] ∧ LotAt K H a n ms ∧ LotAt K H b n ms' ∧ ∀ H' v, Ext H H' → ToldAt K H' v (addOut n ms n ms') → Q v H'
def sp_l5_told (K : PySem.W.Frag) : Sp := fun vs H Q E => ∃ (a : Addr) (n k b : Int) (ms : List Int), vs = [.ref a, .int n, .int k, .int b] ∧ LotAt K H a n ms ∧ 0 ≤ k ∧ k < 7 ∧ 0 ≤ b ∧ b < 360 ∧ (k = 5 → n * (2 + b % 2) ≤ 360) ∧ ∀ H' v, Ext H H' → ToldAt K H' v (deedOut n ms k b) → Q v H'
/-- what the law makes of a deed: hours, members, counts, or the least hour that comes up twice -/
def due5 (n : Int) (ms cs : List Int) (k b : Int) : Int × List Int × List Int ⊕ Int :=
  if k = 5 then .inl (n * (2 + b % 2), copies n ms (2 + b % 2), (ring (n * (2 + b % 2))).map fun d => (2 + b % 2) * (cs[(d % n).toNat]?.getD 0))
  else if k = 6 then (match rep (ms.map fun m => m % partOf n b) with
    | some h => .inr h
    | none => .inl (partOf n b, srt (ms.map fun m => m % partOf n b), (ring (partOf n b)).map fun d => (((ring n).filter fun e => decide (e % partOf n b = d % partOf n b ∧ d ≤ e)).map fun e => cs[e.toNat]?.getD 0).sum))
  else if k = 3 then .inl (n, invL n ms, cs.map fun c => c + n - 2 * (ms.length : Nat))
  else .inl (n, (ring n).filter (fun h => decide (h ∈ (if k = 0 then ms.map fun m => (m + shiftOf b) % n else if k = 1 then ms.map fun m => (m - shiftOf b) % n else if k = 4 then ms.map fun m => (m * factorOf n b) % n else ms.map fun m => (0 - m) % n))),
    if k = 4 then (ring n).foldl (fun found d => found.set ((d * factorOf n b) % n).toNat (cs[d.toNat]?.getD 0)) cs else cs)
end Bw
namespace Bw
open PySem PySem.Spec PyProof.Rows L2
def DueAt (H : Hp) (v : V) : Int × List Int × List Int ⊕ Int → Prop
  | .inl (n, ms, cs) => ∃ p x y, v = .ref p ∧ H p = some (.tup [.int n, .ref x, .ref y]) ∧ H x = some (.lst (ms.map V.int)) ∧ H y = some (.lst (cs.map V.int))
  | .inr h => Dn H 1 v (.tuple [.str "Meets", .int h])
def Small (cs : List Int) : Prop := ∀ c ∈ cs, 0 ≤ c ∧ c < 100000
def sp_l_copied_due (K : PySem.W.Frag) : Sp := fun vs H Q E => ∃ (a c : Addr) (n t : Int) (ms cs : List Int), vs = [.ref a, .ref c, .int n, .int t] ∧ H a = some (.lst (ms.map V.int)) ∧ H c = some (.lst (cs.map V.int)) ∧ LotOk n ms ∧ cs.length = n.toNat ∧ Small cs ∧ 1 ≤ t ∧ t ≤ 3 ∧
  ∀ H' v, Ext H H' → DueAt H' v (.inl (n * t, copies n ms t, (ring (n * t)).map fun d => t * (cs[(d % n).toNat]?.getD 0))) → Q v H'
def resDue (n : Int) (ms cs : List Int) (m : Int) : Int × List Int × List Int ⊕ Int := match rep (ms.map fun x => x % m) with
  | some h => .inr h
  | none => .inl (m, srt (ms.map fun x => x % m), (ring m).map fun d => (((ring n).filter fun e => decide (e % m = d)).map fun e => cs[e.toNat]?.getD 0).sum)
def sp_l_residues_due (K : PySem.W.Frag) : Sp := fun vs H Q E => ∃ (a c : Addr) (n m : Int) (ms cs : List Int), vs = [.ref a, .ref c, .int n, .int m] ∧ H a = some (.lst (ms.map V.int)) ∧ H c = some (.lst (cs.map V.int)) ∧ LotOk n ms ∧ cs.length = n.toNat ∧ Small cs ∧ 1 ≤ m ∧ m ≤ n ∧
  ∀ H' v, Ext H H' → DueAt H' v (resDue n ms cs m) → Q v H'
def moved5 (n : Int) (ms : List Int) (k b : Int) : List Int := if k = 0 then ms.map fun m => m + shiftOf b else if k = 1 then ms.map fun m => m - shiftOf b else if k = 4 then ms.map fun m => m * factorOf n b else ms.map fun m => 0 - m
def due5' (n : Int) (ms cs : List Int) (k b : Int) : Int × List Int × List Int ⊕ Int :=
  if k = 5 then .inl (n * (2 + b % 2), copies n ms (2 + b % 2), (ring (n * (2 + b % 2))).map fun d => (2 + b % 2) * (cs[(d % n).toNat]?.getD 0))
  else if k = 6 then resDue n ms cs (partOf n b)
  else if k = 3 then .inl (n, invL n ms, cs.map fun c => c + n - 2 * (ms.length : Nat))
  else .inl (n, (ring n).filter (fun h => decide (h ∈ (moved5 n ms k b).map fun m => m % n)), if k = 4 then (ring n).foldl (fun found d => found.set ((d * factorOf n b) % n).toNat (cs[d.toNat]?.getD 0)) cs else cs)
def sp_l_due (K : PySem.W.Frag) : Sp := fun vs H Q E => ∃ (a c : Addr) (n k b : Int) (ms cs : List Int), vs = [.ref a, .ref c, .int n, .int k, .int b] ∧ H a = some (.lst (ms.map V.int)) ∧ H c = some (.lst (cs.map V.int)) ∧ LotOk n ms ∧ cs.length = n.toNat ∧ Small cs ∧ 0 ≤ k ∧ k < 7 ∧ 0 ≤ b ∧ b < 360 ∧
  ∀ H' v, Ext H H' → DueAt H' v (due5' n ms cs k b) → Q v H'
end Bw
namespace Bw
open PySem PySem.Spec PyProof.Rows L2
theorem parts_mem {n b : Int} (h : 1 ≤ n) : 1 ≤ partOf n b ∧ partOf n b ≤ n ∧ n % partOf n b = 0 := by
  have ne : partsL n ≠ [] := fun z => by
    have : (1 : Int) ∈ partsL n := List.mem_filter.mpr ⟨mem_ones.mpr ⟨by omega, h⟩, by simp [Int.emod_one]⟩
    rw [z] at this
    cases this
  have dl : 0 < (partsL n).length := List.length_pos_iff.mpr ne
  have r := emod_rng (n := ((partsL n).length : Nat)) (by omega) b
  have hk : (b % ((partsL n).length : Nat)).toNat < (partsL n).length := by omega
  unfold partOf
  rw [List.getElem?_eq_getElem hk]
  have hm := List.getElem_mem hk
  have hf := List.mem_filter.mp hm
  have ho := mem_ones.mp hf.1
  exact ⟨ho.1, ho.2, of_decide_eq_true hf.2⟩
def unitsL (n : Int) : List Int := (ones n).filter fun t => decide (gcdI t n = 1)
theorem units_ne {n : Int} (h : 1 ≤ n) : unitsL n ≠ [] := fun z => by
  have : (1 : Int) ∈ unitsL n := List.mem_filter.mpr ⟨mem_ones.mpr ⟨by omega, h⟩, by simp [gcdI]⟩
  rw [z] at this
  cases this
theorem factor_eq (n b : Int) : factorOf n b = ((unitsL n)[(b % ((unitsL n).length : Nat)).toNat]?.getD 0) + n * (b - 180) := rfl
theorem factor_unit {n b : Int} (h : 1 ≤ n) : ∃ u ∈ unitsL n, factorOf n b = u + n * (b - 180) := by
  have dl : 0 < (unitsL n).length := List.length_pos_iff.mpr (units_ne h)
  have r := emod_rng (n := ((unitsL n).length : Nat)) (by omega) b
  have hk : (b % ((unitsL n).length : Nat)).toNat < (unitsL n).length := by omega
  refine ⟨_, List.getElem_mem hk, ?_⟩
  rw [factor_eq, List.getElem?_eq_getElem hk]
  rfl
theorem factor_bound {n b : Int} (h : 1 ≤ n) (n2 : n ≤ 1000) (b0 : 0 ≤ b) (b1 : b < 1000) : (factorOf n b).natAbs < 2 ^ 40 := by
  obtain ⟨u, hu, e⟩ := factor_unit (b := b) h
  have ho := mem_ones.mp (List.mem_filter.mp hu).1
  have h1 : n * (b - 180) ≤ n * 820 := Int.mul_le_mul_of_nonneg_left (by omega) (by omega)
  have h2 : n * (-180) ≤ n * (b - 180) := Int.mul_le_mul_of_nonneg_left (by omega) (by omega)
  omega
theorem deed_cases {n k b : Int} {ms : List Int} (ok : LotOk n ms) (k0 : 0 ≤ k) (k1 : k < 7) (h5 : k = 5 → n * (2 + b % 2) ≤ 360) : (∃ n' l, deedOut n ms k b = .lot n' l) ∨ ∃ h, deedOut n ms k b = .meets h := by
  have n1 := ok.n1
  have once : ∀ n' rs, (∃ n'' l, onceOut n' rs = .lot n'' l) ∨ ∃ h, onceOut n' rs = .meets h := fun n' rs => by
    unfold onceOut
    cases rep rs with
    | none => exact .inl ⟨_, _, rfl⟩
    | some h => exact .inr ⟨_, rfl⟩
  unfold deedOut
  by_cases e0 : k = 0
  · rw [if_pos e0]; exact .inl ⟨_, _, rfl⟩
  rw [if_neg e0]
  by_cases e1 : k = 1
  · rw [if_pos e1]; exact .inl ⟨_, _, rfl⟩
  rw [if_neg e1]
  by_cases e2 : k = 2
  · rw [if_pos e2]; exact .inl ⟨_, _, rfl⟩
  rw [if_neg e2]
  by_cases e3 : k = 3
  · rw [if_pos e3]; exact .inl ⟨_, _, rfl⟩
  rw [if_neg e3]
  by_cases e4 : k = 4
  · rw [if_pos e4]; exact once _ _
  rw [if_neg e4]
  by_cases e5 : k = 5
  · rw [if_pos e5]
    unfold powOut
    have r := emod_rng (n := 2) (by decide) b
    have := h5 e5
    rw [if_neg (by omega), if_neg (by omega)]
    exact .inl ⟨_, _, rfl⟩
  · rw [if_neg e5]
    have p := parts_mem (b := b) n1
    unfold modOut
    rw [if_neg (by omega)]
    exact once _ _
end Bw
namespace Bw
open PySem PySem.Spec PyProof.Rows L2
theorem once_ring {n : Int} {rs : List Int} (hr : ∀ r ∈ rs, 0 ≤ r ∧ r < n) (e : rep rs = none) : (ring n).filter (fun h => decide (rs.count h = 1)) = srt rs := by
  have asc : ((ring n).filter fun h => decide (rs.count h = 1)).Pairwise (· < ·) := (ring_asc n).sublist List.filter_sublist
  have nd := rep_none_nodup e
  refine srt_unique ((List.perm_ext_iff_of_nodup (lt_nodup asc) nd).mpr fun m => ?_) (lt_le asc)
  rw [List.mem_filter, mem_ring]
  constructor
  · rintro ⟨_, h⟩
    exact List.count_pos_iff.mp (by have := of_decide_eq_true h; omega)
  · intro hm
    have := List.nodup_iff_count.mp nd m
    have := List.count_pos_iff.mpr hm
    exact ⟨hr m hm, decide_eq_true (by omega)⟩
theorem twice_ring {n : Int} {rs : List Int} (hr : ∀ r ∈ rs, 0 ≤ r ∧ r < n) : rep rs = ((ring n).filter fun h => decide (1 < rs.count h)).head? := by
  cases e : (ring n).filter fun h => decide (1 < rs.count h) with
  | nil =>
    refine rep_none_of_count fun k => ?_
    by_cases hk : 1 < rs.count k
    · have hm : k ∈ rs := List.count_pos_iff.mp (by omega)
      have : k ∈ (ring n).filter fun h => decide (1 < rs.count h) := List.mem_filter.mpr ⟨mem_ring.mpr (hr k hm), decide_eq_true hk⟩
      rw [e] at this
      cases this
    · omega
  | cons x r =>
    have asc : ((ring n).filter fun h => decide (1 < rs.count h)).Pairwise (· < ·) := (ring_asc n).sublist List.filter_sublist
    have mem : ∀ k, k ∈ ((ring n).filter fun h => decide (1 < rs.count h)) ↔ k ∈ x :: r := fun k => by rw [e]
    rw [e] at asc
    have hx := (mem x).mpr List.mem_cons_self
    refine rep_first (of_decide_eq_true (List.mem_filter.mp hx).2) fun k hk => ?_
    by_cases hc : 1 < rs.count k
    · have hm : k ∈ rs := List.count_pos_iff.mp (by omega)
      have := (mem k).mp (List.mem_filter.mpr ⟨mem_ring.mpr (hr k hm), decide_eq_true hc⟩)
      rcases List.mem_cons.mp this with rfl | hm'
      · omega
      · have := (List.pairwise_cons.mp asc).1 k hm'
        omega
    · omega
/-- d, d + m, .. below n -/
def stepsN (d n m : Int) : Nat := ((n - d - 1) / m + 1).toNat
def stepsL (d n m : Int) : List Int := (List.range (stepsN d n m)).map fun i : Nat => d + (i : Int) * m
theorem steps_rgc {d n m : Int} (d0 : 0 ≤ d) (dn : d < n) (m1 : 1 ≤ m) (m2 : m ≤ n) (n2 : n ≤ 1000) : RgC d n m (stepsN d n m) := by
  have q0 : 0 ≤ (n - d - 1) / m := Int.ediv_nonneg (by omega) (by omega)
  have q1 : (n - d - 1) / m ≤ n - d - 1 := Int.ediv_le_self _ (by omega)
  have sz : Builtin.Range.rangeSize d n m = (n - d - 1) / m + 1 := by
    unfold Builtin.Range.rangeSize
    rw [if_pos (by omega), if_pos dn]
  refine ⟨by omega, by omega, ?_, ?_⟩
  · unfold Builtin.Range.small
    rw [sz]
    simp only [Builtin.Range.rangeFitsLong, Bool.and_eq_true, Bool.or_eq_true, decide_eq_true_eq, beq_iff_eq]
    rw [if_pos (show m > 0 by omega)]
    simp only [Bool.and_eq_true, decide_eq_true_eq]
    omega
  · rw [sz]
    unfold stepsN
    omega
theorem steps_mem {d n m e : Int} (d0 : 0 ≤ d) (dn : d < n) (dm : d < m) (m1 : 1 ≤ m) : e ∈ stepsL d n m ↔ e ∈ ring n ∧ e % m = d := by
  rw [mem_ring]
  unfold stepsL stepsN
  have q0 : 0 ≤ (n - d - 1) / m := Int.ediv_nonneg (by omega) (by omega)
  constructor
  · intro h
    obtain ⟨k, hk, rfl⟩ := List.mem_map.mp h
    have hk := List.mem_range.mp hk
    have h1 : (k : Int) ≤ (n - d - 1) / m := by omega
    have h2 : (k : Int) * m ≤ n - d - 1 := Int.le_trans (Int.mul_le_mul_of_nonneg_right h1 (by omega)) (Int.ediv_mul_le _ (by omega))
    have h3 : 0 ≤ (k : Int) * m := Int.mul_nonneg (by omega) (by omega)
    refine ⟨by omega, ?_⟩
    rw [Int.add_mul_emod_self_right]
    exact Int.emod_eq_of_lt d0 dm
  · rintro ⟨⟨e0, en⟩, he⟩
    have h1 := Int.emod_add_mul_ediv e m
    have h2 : 0 ≤ e / m := Int.ediv_nonneg e0 (by omega)
    rw [he] at h1
    have h3 : e / m ≤ (n - d - 1) / m := by
      refine (Int.le_ediv_iff_mul_le (by omega)).mpr ?_
      rw [Int.mul_comm]
      omega
    refine List.mem_map.mpr ⟨(e / m).toNat, List.mem_range.mpr (by omega), ?_⟩
    rw [show (((e / m).toNat : Nat) : Int) = e / m by omega, Int.mul_comm]
    exact h1
theorem steps_eq {d n m : Int} (d0 : 0 ≤ d) (dn : d < n) (dm : d < m) (m1 : 1 ≤ m) : stepsL d n m = (ring n).filter fun e => decide (e % m = d) := by
  have a1 : (stepsL d n m).Pairwise (· < ·) := by
    unfold stepsL
    refine List.pairwise_map.mpr (List.pairwise_lt_range.imp fun {i j} h => ?_)
    have : (i : Int) * m < (j : Int) * m := Int.mul_lt_mul_of_pos_right (by omega) (by omega)
    omega
  have a2 : ((ring n).filter fun e => decide (e % m = d)).Pairwise (· < ·) := (ring_asc n).sublist List.filter_sublist
  have p : (stepsL d n m).Perm ((ring n).filter fun e => decide (e % m = d)) := (List.perm_ext_iff_of_nodup (lt_nodup a1) (lt_nodup a2)).mpr fun e => by rw [steps_mem d0 dn dm m1, List.mem_filter, decide_eq_true_eq]
  exact List.Perm.eq_of_pairwise (fun _ _ _ _ a b => Int.le_antisymm a b) (lt_le a1) (lt_le a2) p
theorem src_steps {H : Hp} {lo c : Int} {n : Nat} : SrcAt (Itc lo c n) ((List.range n).map fun i : Nat => V.int (lo + (i : Int) * c)) H := by
  intro i
  refine ⟨fun x e => ?_, fun l => by rw [List.length_map, List.length_range] at l; exact l⟩
  by_cases h : i < n
  · rw [List.getElem?_map, List.getElem?_range h] at e
    cases e
    exact ⟨h, fun y H' q => ⟨q.1, q.2⟩⟩
  · rw [List.getElem?_eq_none (by simp; omega)] at e
    cases e
end Bw
namespace Bw
open PySem PySem.Spec PyProof.Rows L2
theorem ring_at {n h : Int} (h0 : 0 ≤ h) (h1 : h < n) : (ring n)[h.toNat]? = some h := by
  unfold ring
  rw [List.getElem?_map, List.getElem?_range (by omega)]
  show some ((h.toNat : Nat) : Int) = some h
  rw [show ((h.toNat : Nat) : Int) = h by omega]
theorem tally_at {n h : Int} {zs : List Int} (h0 : 0 ≤ h) (h1 : h < n) : (tally n zs)[h.toNat]? = some ((zs.count h : Nat) : Int) := by
  unfold tally
  rw [List.getElem?_map, ring_at h0 h1]
  rfl
theorem getD_small {cs : List Int} (h : Small cs) (k : Nat) : 0 ≤ cs[k]?.getD 0 ∧ cs[k]?.getD 0 < 100000 := by
  by_cases hk : k < cs.length
  · rw [List.getElem?_eq_getElem hk]
    exact h _ (List.getElem_mem hk)
  · rw [List.getElem?_eq_none (by omega)]
    exact ⟨by decide, by decide⟩
end Bw

namespace Bw
open PySem PySem.Spec PyProof.Rows L2
def t_hours_checked (K : PySem.W.Frag) (E : XK) : TS :=
  (tIfS (tNot (tTest (tChain rLeI rLeI (tC (.int 1)) (tVar 0) (tVar 1)))) (tRse (wE E) (tMkE (He.ga K "BadNumber") ok2 (fs2 "name" "value") (tCons (tC (.str "hours")) (tCons (tVar 0) tNil)))) tNext)
def t_rings_checked (K : PySem.W.Frag) (E : XK) : TS :=
  (tIfS (tTest (tOp rNe (tFldI (He.ga K "Lot") "hours" (tVar 0)) (tFldI (He.ga K "Lot") "hours" (tVar 1)))) (tRse (wE E) (tMkP (He.ga K "OtherHours"))) tNext)
def t_each_once (K : PySem.W.Frag) (E : XK) : TS :=
  (tSeq (tAsg (tCB (rSortedI K) (tCons (tLc (iList K (tVar 0)) (gName 3) tYes (tCB rInt1 (tCons (tVar 3) tNil)) [3]) tNil)) (gName 1))
  (tSeq (tFor (iRng2 (tCons (tC (.int 1)) (tCons (tCB (rLenQ K) (tCons (tVar 1) tNil)) tNil))) (gName 2) (tIfS (tTest (tOp rEq (tOp (rIxL K) (tVar 1) (tVar 2)) (tOp (rIxL K) (tVar 1) (tOp rSubI (tVar 2) (tC (.int 1)))))) (tRse (wE E) (tMkE (He.ga K "Meets") ok1 (fs1 "hour") (tCons (tOp (rIxL K) (tVar 1) (tVar 2)) tNil))) tNext))
  (tRet (tVar 1))))
def t_Lot_init (K : PySem.W.Frag) (E : XK) : TS :=
  (tSeq (tDrop (tC1 (sp_hours_checked K) (wE E) (tCons (tVar 1) (tCons (tConI (He.ga K "Lot") "MOST" (.int 360) (tVar 0)) tNil))))
  (tSeq (tAsg (tLc (iList K (tVar 2)) (gName 4) tYes (tOp rModN (tVar 4) (tVar 1)) [4]) (gName 3))
  (tSeq (tIfS (tTest (tOp rLtI (RZ.tLenSetI K (tVar 3)) (tCB (rLenQ K) (tCons (tVar 3) tNil)))) (tRse (wE E) (tMkE (He.ga K "RepeatedHour") ok1 (fs1 "hour") (tCons (tC1 (spF K) (wE E) (tCons (tVar 3) tNil)) tNil))) tNext)
  (tSeq (sFldI (He.ga K "Lot") "hours" (tVar 0) (tVar 1))
  (sFldI (He.ga K "Lot") "_members" (tVar 0) (tCB (rSortedI K) (tCons (tLc (iList K (tVar 3)) (gName 5) tYes (tCB rInt1 (tCons (tVar 5) tNil)) [5]) tNil)))))))
def t_Lot_members (K : PySem.W.Frag) (E : XK) : TS :=
  (tRet (tCB (rListOf K) (tCons (tFldI (He.ga K "Lot") "_members" (tVar 0)) tNil)))
def t_Lot_lshift (K : PySem.W.Frag) (E : XK) : TS :=
  (tRet (tMk1 (He.ga K "Lot") (sp_Lot_init K) (wE E) (tCons (tFldI (He.ga K "Lot") "hours" (tVar 0)) (tCons (tLc (iList K (tFldI (He.ga K "Lot") "_members" (tVar 0))) (gName 2) tYes (tOp rAddI (tVar 2) (tVar 1)) [2]) tNil))))
def t_Lot_rshift (K : PySem.W.Frag) (E : XK) : TS :=
  (tRet (tMk1 (He.ga K "Lot") (sp_Lot_init K) (wE E) (tCons (tFldI (He.ga K "Lot") "hours" (tVar 0)) (tCons (tLc (iList K (tFldI (He.ga K "Lot") "_members" (tVar 0))) (gName 2) tYes (tOp rSubI (tVar 2) (tVar 1)) [2]) tNil))))
def t_Lot_neg (K : PySem.W.Frag) (E : XK) : TS :=
  (tRet (tMk1 (He.ga K "Lot") (sp_Lot_init K) (wE E) (tCons (tFldI (He.ga K "Lot") "hours" (tVar 0)) (tCons (tLc (iList K (tFldI (He.ga K "Lot") "_members" (tVar 0))) (gName 1) tYes (tUn rNegI (tVar 1)) [1]) tNil))))
def t_Lot_invert (K : PySem.W.Frag) (E : XK) : TS :=
  (tRet (tMk1 (He.ga K "Lot") (sp_Lot_init K) (wE E) (tCons (tFldI (He.ga K "Lot") "hours" (tVar 0)) (tCons (tLc (iRng1 (tCons (tFldI (He.ga K "Lot") "hours" (tVar 0)) tNil)) (gName 1) (tTest (tOp (rIn K true) (tVar 1) (tFldI (He.ga K "Lot") "_members" (tVar 0)))) (tVar 1) [1]) tNil))))
def t_Lot_mul (K : PySem.W.Frag) (E : XK) : TS :=
  (tRet (tMk1 (He.ga K "Lot") (sp_Lot_init K) (wE E) (tCons (tFldI (He.ga K "Lot") "hours" (tVar 0)) (tCons (tC1 (sp_each_once K) (wE E) (tCons (tLc (iList K (tFldI (He.ga K "Lot") "_members" (tVar 0))) (gName 2) tYes (tOp rModN (tOp rMulW (tVar 2) (tVar 1)) (tFldI (He.ga K "Lot") "hours" (tVar 0))) [2]) tNil)) tNil))))
def t_Lot_rmul (K : PySem.W.Frag) (E : XK) : TS :=
  (tRet (tBinN (He.ga K "Lot") (sp_Lot_mul K) (wE E) (tVar 0) (tVar 1)))
def t_Lot_add (K : PySem.W.Frag) (E : XK) : TS :=
  (tSeq (tDrop (tC1 (sp_rings_checked K) (wE E) (tCons (tVar 0) (tCons (tVar 1) tNil))))
  (tSeq (tAsg (tLc2 (iList K (tFldI (He.ga K "Lot") "_members" (tVar 0))) (gName 3) tYes (iList K (tFldI (He.ga K "Lot") "_members" (tVar 1))) (gName 4) tYes (tOp rModN (tOp rAddI (tVar 3) (tVar 4)) (tFldI (He.ga K "Lot") "hours" (tVar 0))) [3, 4] [4]) (gName 2))
  (tRet (tMk1 (He.ga K "Lot") (sp_Lot_init K) (wE E) (tCons (tFldI (He.ga K "Lot") "hours" (tVar 0)) (tCons (tC1 (sp_each_once K) (wE E) (tCons (tVar 2) tNil)) tNil))))))
def t_Lot_mod (K : PySem.W.Frag) (E : XK) : TS :=
  (tSeq (tIfS (tOr (tTest (tOp rLtI (tVar 1) (tC (.int 1)))) (tTest (tOp rNe (tOp rModN (tFldI (He.ga K "Lot") "hours" (tVar 0)) (tVar 1)) (tC (.int 0))))) (tRse (wE E) (tMkE (He.ga K "NotADivisor") ok1 (fs1 "number") (tCons (tVar 1) tNil))) tNext)
  (tRet (tMk1 (He.ga K "Lot") (sp_Lot_init K) (wE E) (tCons (tVar 1) (tCons (tC1 (sp_each_once K) (wE E) (tCons (tLc (iList K (tFldI (He.ga K "Lot") "_members" (tVar 0))) (gName 2) tYes (tOp rModN (tVar 2) (tVar 1)) [2]) tNil)) tNil)))))
def t_Lot_pow (K : PySem.W.Frag) (E : XK) : TS :=
  (tSeq (tIfS (tTest (tOp rLtI (tVar 1) (tC (.int 1)))) (tRse (wE E) (tMkE (He.ga K "BadNumber") ok2 (fs2 "name" "value") (tCons (tC (.str "times")) (tCons (tVar 1) tNil)))) tNext)
  (tSeq (tDrop (tC1 (sp_hours_checked K) (wE E) (tCons (tOp rMulW (tFldI (He.ga K "Lot") "hours" (tVar 0)) (tVar 1)) (tCons (tConI (He.ga K "Lot") "MOST" (.int 360) (tVar 0)) tNil))))
  (tSeq (tAsg (tLc2 (iRng1 (tCons (tVar 1) tNil)) (gName 3) tYes (iList K (tFldI (He.ga K "Lot") "_members" (tVar 0))) (gName 4) tYes (tOp rAddI (tVar 4) (tOp rMulW (tVar 3) (tFldI (He.ga K "Lot") "hours" (tVar 0)))) [3, 4] [4]) (gName 2))
  (tRet (tMk1 (He.ga K "Lot") (sp_Lot_init K) (wE E) (tCons (tOp rMulW (tFldI (He.ga K "Lot") "hours" (tVar 0)) (tVar 1)) (tCons (tVar 2) tNil)))))))
def t_meetings (K : PySem.W.Frag) (E : XK) : TS :=
  (tSeq (tDrop (tC1 (sp_rings_checked K) (wE E) (tCons (tVar 0) (tCons (tVar 1) tNil))))
  (tSeq (tAsg (tLc (iRng1 (tCons (tFldI (He.ga K "Lot") "hours" (tVar 0)) tNil)) (gName 6) tYes (tC (.int 0)) [6]) (gName 2))
  (tSeq (tFor (iOwn K (He.ga K "Lot") "_members" (tVar 0)) (gName 3) (tFor (iOwn K (He.ga K "Lot") "_members" (tVar 1)) (gName 4) (tSeq (tAsg (tOp rModN (tOp rSubI (tVar 3) (tVar 4)) (tFldI (He.ga K "Lot") "hours" (tVar 0))) (gName 5))
  (tAsg (tOp rAddI (tOp (rIxL K) (tVar 2) (tVar 5)) (tC (.int 1))) (gSub (tVar 2) (tVar 5) rSetL)))))
  (tRet (tVar 2)))))
def t_differences (K : PySem.W.Frag) (E : XK) : TS :=
  (tRet (tC1 (sp_meetings K) (wE E) (tCons (tVar 0) (tCons (tVar 0) tNil))))
def t_l_cell (K : PySem.W.Frag) (E : XK) : TS :=
  (tSeq (tIfS (tTest (tOp rLtI (tVar 1) (tCB (rLenQ K) (tCons (tVar 0) tNil)))) (tRet (tCB rAbs (tCons (tOp (rIxL K) (tVar 0) (tVar 1)) tNil))) tNext)
  (tRet (tC (.int 0))))
def t_l_draws (K : PySem.W.Frag) (E : XK) : TS :=
  (tSeq (tAsg (tLst tNil) (gName 3))
  (tSeq (tAsg (tOp rSubI (tVar 0) (tOp rPowI (tC (.int 10)) (tC (.int 18)))) (gName 4))
  (tSeq (tAsg (tOp rAddI (tVar 0) (tOp rMulW (tC (.int 7919)) (tVar 1))) (gName 5))
  (tSeq (tFor (iRng1 (tCons (tCB (rLenQ K) (tCons (tVar 2) tNil)) tNil)) (gName 6) (tIfS (tTest (tOp rGeI (tVar 4) (tC (.int 0)))) (tSeq (tDrop (tBM K "list" rAppend (tVar 3) (tCons (tOp rModN (tCB rInt1 (tCons (tVar 4) tNil)) (tOp (rIxL K) (tVar 2) (tVar 6))) tNil)))
  (tAsg (tOp rDivW (tVar 4) (tOp (rIxL K) (tVar 2) (tVar 6))) (gName 4))) (tSeq (tAsg (tOp rModN (tCB rInt1 (tCons (tOp rAddI (tOp rAddI (tOp rMulW (tVar 5) (tVar 5)) (tOp rMulW (tC (.int 3571)) (tOp rAddI (tVar 6) (tC (.int 1))))) (tC (.int 40692))) tNil)) (tC (.int 2147483399))) (gName 5))
  (tSeq (tAsg (tOp rModN (tCB rInt1 (tCons (tOp rAddI (tOp rMulW (tVar 5) (tVar 5)) (tOp rDivW (tVar 5) (tC (.int 97)))) tNil)) (tC (.int 2147483629))) (gName 5))
  (tDrop (tBM K "list" rAppend (tVar 3) (tCons (tOp rModN (tCB rInt1 (tCons (tOp rDivW (tVar 5) (tC (.int 8))) tNil)) (tOp (rIxL K) (tVar 2) (tVar 6))) tNil)))))))
  (tRet (tVar 3))))))
def t_l_is_int (K : PySem.W.Frag) (E : XK) : TS :=
  (tRet (tAndV (tCB (rIsi K) (tCons (tVar 0) (tCons (tC (.ty "int")) tNil))) (tNotV (tCB (rIsi K) (tCons (tVar 0) (tCons (tC (.ty "bool")) tNil))))))
def t_l_same (K : PySem.W.Frag) (sr : Sp) (E : XK) : TS :=
  (tSeq (tIfS (tTest (tOp rIsNo (tVar 1) (tC .non))) (tRet (tOp rIsNo (tVar 0) (tC .non))) tNext)
  (tSeq (tIfS (tTest (tOp rIsL (tVar 1) (tC (.bl true)))) (tRet (tOp rIsL (tVar 0) (tC (.bl true)))) tNext)
  (tSeq (tIfS (tTest (tOp rIsL (tVar 1) (tC (.bl false)))) (tRet (tOp rIsL (tVar 0) (tC (.bl false)))) tNext)
  (tSeq (tIfS (tB (tCB (rIsi K) (tCons (tVar 1) (tCons (tC (.ty "int")) tNil)))) (tRet (tAndV (tC1 (sp_l_is_int K) (wE E) (tCons (tVar 0) tNil)) (tOp rEq (tVar 0) (tVar 1)))) tNext)
  (tSeq (tIfS (tB (tCB (rIsi K) (tCons (tVar 1) (tCons (tC (.ty "str")) tNil)))) (tRet (tAndV (tCB (rIsi K) (tCons (tVar 0) (tCons (tC (.ty "str")) tNil))) (tOp rEq (tVar 0) (tVar 1)))) tNext)
  (tSeq (tIfS (tB (tCB (rIsi K) (tCons (tVar 1) (tCons (tC (.ty "tuple")) tNil)))) (tIfS (tOr (tNot (tB (tCB (rIsi K) (tCons (tVar 0) (tCons (tC (.ty "tuple")) tNil))))) (tTest (tOp rNe (tCB (rLenQ K) (tCons (tVar 0) tNil)) (tCB (rLenQ K) (tCons (tVar 1) tNil))))) (tRet (tC (.bl false))) tNext) (tIfS (tOr (tNot (tB (tCB (rIsi K) (tCons (tVar 0) (tCons (tC (.ty "list")) tNil))))) (tTest (tOp rNe (tCB (rLenQ K) (tCons (tVar 0) tNil)) (tCB (rLenQ K) (tCons (tVar 1) tNil))))) (tRet (tC (.bl false))) tNext))
  (tSeq (tFor (iRng1 (tCons (tCB (rLenQ K) (tCons (tVar 1) tNil)) tNil)) (gName 2) (tIfS (tNot (tB (tC1 sr (wE E) (tCons (fun σ H Q => (tOp (rIxL K) (tVar 0) (tVar 2)) σ H Q ∨ (tOp (rIxT K) (tVar 0) (tVar 2)) σ H Q) (tCons (fun σ H Q => (tOp (rIxL K) (tVar 1) (tVar 2)) σ H Q ∨ (tOp (rIxT K) (tVar 1) (tVar 2)) σ H Q) tNil))))) (tRet (tC (.bl false))) tNext))
  (tRet (tC (.bl true))))))))))
def t_l_bits (K : PySem.W.Frag) (E : XK) : TS :=
  (tSeq (tAsg (tLst tNil) (gName 2))
  (tSeq (tFor (iRng1 (tCons (tVar 0) tNil)) (gName 3) (tSeq (tIfS (tTest (tOp rEq (tOp rModN (tCB rInt1 (tCons (tVar 1) tNil)) (tC (.int 2))) (tC (.int 1)))) (tDrop (tBM K "list" rAppend (tVar 2) (tCons (tVar 3) tNil))) tNext)
  (tAsg (tOp rDivW (tVar 1) (tC (.int 2))) (gName 1))))
  (tRet (tVar 2))))
def t_l_subset (K : PySem.W.Frag) (E : XK) : TS :=
  (tSeq (tAsg (tLst tNil) (gName 3))
  (tSeq (tAsg (tC1 (sp_l_draws K) (wE E) (tCons (tVar 0) (tCons (tVar 1) (tCons (tOp rRep (tLst (tCons (tOp rPowI (tC (.int 2)) (tC (.int 25))) tNil)) (tOp rAddI (tC (.int 1)) (tOp rDivW (tOp rSubI (tVar 2) (tC (.int 1))) (tC (.int 25))))) tNil)))) (gName 4))
  (tSeq (tFor (iRng1 (tCons (tCB (rLenQ K) (tCons (tVar 4) tNil)) tNil)) (gName 5) (tAsg (tOp rCat (tVar 3) (tLc (iList K (tC1 (sp_l_bits K) (wE E) (tCons (tC (.int 25)) (tCons (tOp (rIxL K) (tVar 4) (tVar 5)) tNil)))) (gName 6) (tTest (tOp rLtI (tOp rAddI (tOp rMulW (tC (.int 25)) (tVar 5)) (tVar 6)) (tVar 2))) (tOp rAddI (tOp rMulW (tC (.int 25)) (tVar 5)) (tVar 6)) [6])) (gName 3)))
  (tRet (tVar 3)))))
def t_l_gcd (K : PySem.W.Frag) (E : XK) : TS :=
  (tSeq (tWhile (tTest (tOp rGtI (tVar 1) (tC (.int 0)))) (tPar 0 1 (tCons (tVar 1) (tCons (tOp rModN (tCB rInt1 (tCons (tVar 0) tNil)) (tVar 1)) tNil))))
  (tRet (tVar 0)))
def t_l_parts (K : PySem.W.Frag) (E : XK) : TS :=
  (tRet (tLc (iRng2 (tCons (tC (.int 1)) (tCons (tOp rAddI (tVar 0) (tC (.int 1))) tNil))) (gName 1) (tTest (tOp rEq (tOp rModN (tCB rInt1 (tCons (tVar 0) tNil)) (tVar 1)) (tC (.int 0)))) (tVar 1) [1]))
def t_l_lots (K : PySem.W.Frag) (E : XK) : TS :=
  (tSeq (tAsg (tC1 (sp_l_subset K) (wE E) (tCons (tC1 (sp_l_cell K) (wE E) (tCons (tVar 0) (tCons (tC (.int 1)) tNil))) (tCons (tC (.int 26)) (tCons (tVar 1) tNil)))) (gName 4))
  (tSeq (tAsg (tC1 (sp_l_subset K) (wE E) (tCons (tC1 (sp_l_cell K) (wE E) (tCons (tVar 0) (tCons (tC (.int 2)) tNil))) (tCons (tC (.int 40)) (tCons (tVar 1) tNil)))) (gName 5))
  (tSeq (tIfS (tTest (tOp rEq (tVar 3) (tC (.int 0)))) (tRet (tTup (tCons (tVar 4) (tCons (tVar 5) tNil)))) tNext)
  (tSeq (tAsg (tC1 (sp_l_parts K) (wE E) (tCons (tVar 1) tNil)) (gName 6))
  (tSeq (tAsg (tOp (rIxL K) (tVar 6) (tOp rModN (tCB rInt1 (tCons (tVar 2) tNil)) (tCB (rLenQ K) (tCons (tVar 6) tNil)))) (gName 7))
  (tRet (tTup (tCons (tLc (iList K (tVar 4)) (gName 8) (tTest (tOp rLtI (tVar 8) (tVar 7))) (tVar 8) [8]) (tCons (tLc (iList K (tVar 5)) (gName 8) (tTest (tOp rEq (tOp rModN (tCB rInt1 (tCons (tVar 8) tNil)) (tVar 7)) (tC (.int 0)))) (tVar 8) [8]) tNil)))))))))
def t_l_counts (K : PySem.W.Frag) (E : XK) : TS :=
  (tSeq (tAsg (tLc (iRng1 (tCons (tVar 1) tNil)) (gName 5) tYes (tOp (rIn K false) (tVar 5) (tVar 0)) [5]) (gName 2))
  (tSeq (tAsg (tLst tNil) (gName 3))
  (tSeq (tFor (iRng1 (tCons (tVar 1) tNil)) (gName 4) (tDrop (tBM K "list" rAppend (tVar 3) (tCons (tCB (rLenQ K) (tCons (tLc (iList K (tVar 0)) (gName 5) (tB (tOp (rIxL K) (tVar 2) (tOp rModN (tCB rInt1 (tCons (tOp rAddI (tVar 5) (tVar 4)) tNil)) (tVar 1)))) (tVar 5) [5]) tNil)) tNil))))
  (tRet (tVar 3)))))
def t_l_met (K : PySem.W.Frag) (E : XK) : TS :=
  (tSeq (tAsg (tOp rRep (tLst (tCons (tC (.int 0)) tNil)) (tVar 1)) (gName 2))
  (tSeq (tFor (iList K (tVar 0)) (gName 3) (tAsg (tOp rAddI (tOp (rIxL K) (tVar 2) (tVar 3)) (tC (.int 1))) (gSub (tVar 2) (tVar 3) rSetL)))
  (tRet (tVar 2))))
def t_l_fold (K : PySem.W.Frag) (E : XK) : TS :=
  (tRet (tLc (iRng1 (tCons (tVar 2) tNil)) (gName 3) tYes (tCB (rSum K) (tCons (tLc (iRng1 (tCons (tVar 2) tNil)) (gName 4) tYes (tOp rMulW (tOp (rIxL K) (tVar 0) (tVar 4)) (tOp (rIxL K) (tVar 1) (tOp rModN (tCB rInt1 (tCons (tOp rSubI (tVar 3) (tVar 4)) tNil)) (tVar 2)))) [4]) tNil)) [3]))
def t_l_is_lot (K : PySem.W.Frag) (E : XK) : TS :=
  (tRet (tAndV (tCB (rIsi K) (tCons (tVar 0) (tCons (tC (.ref (He.ga K "Lot"))) tNil))) (tAndV (tC1 (sp_l_same 1 K) (wE E) (tCons (tFldI (He.ga K "Lot") "hours" (tVar 0)) (tCons (tVar 1) tNil))) (tC1 (sp_l_same 1 K) (wE E) (tCons (tProp (He.ga K "Lot") (sp_Lot_members K) [] E0 (tVar 0)) (tCons (tVar 2) tNil))))))
def t_l_factor (K : PySem.W.Frag) (E : XK) : TS :=
  (tSeq (tAsg (tLc (iRng2 (tCons (tC (.int 1)) (tCons (tOp rAddI (tVar 0) (tC (.int 1))) tNil))) (gName 3) (tTest (tOp rEq (tC1 (sp_l_gcd K) w0 (tCons (tVar 3) (tCons (tVar 0) tNil))) (tC (.int 1)))) (tVar 3) [3]) (gName 2))
  (tRet (tOp rAddI (tOp (rIxL K) (tVar 2) (tOp rModN (tCB rInt1 (tCons (tVar 1) tNil)) (tCB (rLenQ K) (tCons (tVar 2) tNil)))) (tOp rMulW (tVar 0) (tOp rSubI (tVar 1) (tC (.int 180)))))))
def t_l_shift (K : PySem.W.Frag) (E : XK) : TS :=
  (tRet (tOp rAddI (tOp rMulW (tOp rSubI (tVar 0) (tC (.int 180))) (tOp rPowI (tC (.int 10)) (tC (.int 9)))) (tVar 0)))
def t_l_part (K : PySem.W.Frag) (E : XK) : TS :=
  (tSeq (tAsg (tC1 (sp_l_parts K) (wE E) (tCons (tVar 0) tNil)) (gName 2))
  (tRet (tOp (rIxL K) (tVar 2) (tOp rModN (tCB rInt1 (tCons (tVar 1) tNil)) (tCB (rLenQ K) (tCons (tVar 2) tNil))))))
def t_l_kind (K : PySem.W.Frag) (E : XK) : TS :=
  (tSeq (tIfS (tAnd (tTest (tOp rEq (tVar 1) (tC (.int 5)))) (tTest (tOp rGtI (tOp rMulW (tVar 0) (tOp rAddI (tC (.int 2)) (tOp rModN (tCB rInt1 (tCons (tVar 2) tNil)) (tC (.int 2))))) (tC (.int 60))))) (tRet (tC (.int 2))) tNext)
  (tRet (tVar 1)))
def t_l_done (K : PySem.W.Frag) (E : XK) : TS :=
  (tSeq (tIfS (tTest (tOp rEq (tVar 2) (tC (.int 0)))) (tRet (tBinN (He.ga K "Lot") (sp_Lot_lshift K) (wE E) (tVar 0) (tC1 (sp_l_shift K) (wE E) (tCons (tVar 3) tNil)))) tNext)
  (tSeq (tIfS (tTest (tOp rEq (tVar 2) (tC (.int 1)))) (tRet (tBinN (He.ga K "Lot") (sp_Lot_rshift K) (wE E) (tVar 0) (tC1 (sp_l_shift K) (wE E) (tCons (tVar 3) tNil)))) tNext)
  (tSeq (tIfS (tTest (tOp rEq (tVar 2) (tC (.int 2)))) (tRet (tUnI (He.ga K "Lot") (sp_Lot_neg K) (wE E) (tVar 0))) tNext)
  (tSeq (tIfS (tTest (tOp rEq (tVar 2) (tC (.int 3)))) (tRet (tUnI (He.ga K "Lot") (sp_Lot_invert K) (wE E) (tVar 0))) tNext)
  (tSeq (tIfS (tAnd (tTest (tOp rEq (tVar 2) (tC (.int 4)))) (tTest (tOp rEq (tOp rModN (tCB rInt1 (tCons (tVar 3) tNil)) (tC (.int 2))) (tC (.int 0))))) (tRet (tBinN (He.ga K "Lot") (sp_Lot_mul K) (wE E) (tVar 0) (tC1 (sp_l_factor K) (wE E) (tCons (tVar 1) (tCons (tVar 3) tNil))))) tNext)
  (tSeq (tIfS (tTest (tOp rEq (tVar 2) (tC (.int 4)))) (tRet (tRefI (He.ga K "Lot") (sp_Lot_rmul K) (wE E) (tC1 (sp_l_factor K) (wE E) (tCons (tVar 1) (tCons (tVar 3) tNil))) (tVar 0))) tNext)
  (tSeq (tIfS (tAnd (tTest (tOp rEq (tVar 2) (tC (.int 5)))) (tTest (tOp rEq (tOp rModN (tCB rInt1 (tCons (tVar 3) tNil)) (tC (.int 2))) (tC (.int 0))))) (tRet (tBinN (He.ga K "Lot") (sp_Lot_pow K) (wE E) (tVar 0) (tC (.int 2)))) tNext)
  (tSeq (tIfS (tTest (tOp rEq (tVar 2) (tC (.int 5)))) (tRet (tBinN (He.ga K "Lot") (sp_Lot_pow K) (wE E) (tVar 0) (tC (.int 3)))) tNext)
  (tRet (tBinN (He.ga K "Lot") (sp_Lot_mod K) (wE E) (tVar 0) (tC1 (sp_l_part K) (wE E) (tCons (tVar 1) (tCons (tVar 3) tNil)))))))))))))
def t_l_sum (K : PySem.W.Frag) (E : XK) : TS :=
  (tSeq (tAsg (tC .non) (gName 2))
  (tSeq (tTry K (wE E) (fun W => (tAsg (tBinI (He.ga K "Lot") (sp_Lot_add K) W (tVar 0) (tVar 1)) (gName 2))) [((.ref (He.ga K "Meets")), (some 3), fun a cls d => (tAsg (tTup (tCons (tC (.str "Meets")) (tCons (tXf a cls d (He.ga K "Meets") "hour" (tVar 3)) tNil))) (gName 2)))])
  (tRet (tVar 2))))
def t_l_told (K : PySem.W.Frag) (E : XK) : TS :=
  (tSeq (tAsg (tC .non) (gName 4))
  (tSeq (tTry K (wE E) (fun W => (tAsg (tC1 (sp_l5_done K) W (tCons (tVar 0) (tCons (tVar 1) (tCons (tVar 2) (tCons (tVar 3) tNil))))) (gName 4))) [((.ref (He.ga K "Meets")), (some 5), fun a cls d => (tAsg (tTup (tCons (tC (.str "Meets")) (tCons (tXf a cls d (He.ga K "Meets") "hour" (tVar 5)) tNil))) (gName 4)))])
  (tRet (tVar 4))))
def t_l_copied_due (K : PySem.W.Frag) (E : XK) : TS :=
  (tSeq (tAsg (tLst tNil) (gName 4))
  (tSeq (tFor (iRng1 (tCons (tVar 3) tNil)) (gName 5) (tAsg (tOp rCat (tVar 4) (tLc (iList K (tVar 0)) (gName 6) tYes (tOp rAddI (tVar 6) (tOp rMulW (tVar 5) (tVar 2))) [6])) (gName 4)))
  (tRet (tTup (tCons (tOp rMulW (tVar 2) (tVar 3)) (tCons (tVar 4) (tCons (tLc (iRng1 (tCons (tOp rMulW (tVar 2) (tVar 3)) tNil)) (gName 7) tYes (tOp rMulW (tVar 3) (tOp (rIxL K) (tVar 1) (tOp rModN (tCB rInt1 (tCons (tVar 7) tNil)) (tVar 2)))) [7]) tNil)))))))
def t_l_residues_due (K : PySem.W.Frag) (E : XK) : TS :=
  (tSeq (tAsg (tC1 (sp_l_met K) (wE E) (tCons (tLc (iList K (tVar 0)) (gName 7) tYes (tOp rModN (tCB rInt1 (tCons (tVar 7) tNil)) (tVar 3)) [7]) (tCons (tVar 3) tNil))) (gName 4))
  (tSeq (tAsg (tLc (iRng1 (tCons (tVar 3) tNil)) (gName 7) (tTest (tOp rGtI (tOp (rIxL K) (tVar 4) (tVar 7)) (tC (.int 1)))) (tVar 7) [7]) (gName 5))
  (tSeq (tIfS (tTest (tOp rGtI (tCB (rLenQ K) (tCons (tVar 5) tNil)) (tC (.int 0)))) (tRet (tTup (tCons (tC (.str "Meets")) (tCons (tOp (rIxL K) (tVar 5) (tC (.int 0))) tNil)))) tNext)
  (tSeq (tAsg (tLc (iRng1 (tCons (tVar 3) tNil)) (gName 8) tYes (tCB (rSum K) (tCons (tLc (iRng3 (tCons (tVar 8) (tCons (tVar 2) (tCons (tVar 3) tNil)))) (gName 9) tYes (tOp (rIxL K) (tVar 1) (tVar 9)) [9]) tNil)) [8]) (gName 6))
  (tRet (tTup (tCons (tVar 3) (tCons (tLc (iRng1 (tCons (tVar 3) tNil)) (gName 7) (tTest (tOp rEq (tOp (rIxL K) (tVar 4) (tVar 7)) (tC (.int 1)))) (tVar 7) [7]) (tCons (tVar 6) tNil)))))))))
def t_l_due_8 (K : PySem.W.Frag) (E : XK) : TS :=
  (tSeq (tAsg (tLc (iList K (tVar 5)) (gName 9) tYes (tOp rModN (tCB rInt1 (tCons (tVar 9) tNil)) (tVar 2)) [9]) (gName 8))
  (tRet (tTup (tCons (tVar 2) (tCons (tLc (iRng1 (tCons (tVar 2) tNil)) (gName 9) (tTest (tOp (rIn K false) (tVar 9) (tVar 8))) (tVar 9) [9]) (tCons (tVar 6) tNil))))))
def t_l_due_6 (K : PySem.W.Frag) (E : XK) : TS :=
  (tSeq (tAsg (tCB (rListOf K) (tCons (tVar 1) tNil)) (gName 6))
  (tSeq (tIfS (tTest (tOp rEq (tVar 3) (tC (.int 4)))) (tSeq (tAsg (tLc (iList K (tVar 0)) (gName 9) tYes (tOp rMulW (tVar 9) (tC1 (sp_l_factor K) w0 (tCons (tVar 2) (tCons (tVar 4) tNil)))) [9]) (gName 5))
  (tFor (iRng1 (tCons (tVar 2) tNil)) (gName 7) (tAsg (tOp (rIxL K) (tVar 1) (tVar 7)) (gSub (tVar 6) (tOp rModN (tCB rInt1 (tCons (tOp rMulW (tVar 7) (tC1 (sp_l_factor K) (wE E) (tCons (tVar 2) (tCons (tVar 4) tNil)))) tNil)) (tVar 2)) rSetL)))) tNext)
  (t_l_due_8 K E)))
def t_l_due (K : PySem.W.Frag) (E : XK) : TS :=
  (tSeq (tIfS (tTest (tOp rEq (tVar 3) (tC (.int 5)))) (tRet (tC1 (sp_l_copied_due K) (wE E) (tCons (tVar 0) (tCons (tVar 1) (tCons (tVar 2) (tCons (tOp rAddI (tC (.int 2)) (tOp rModN (tCB rInt1 (tCons (tVar 4) tNil)) (tC (.int 2)))) tNil)))))) tNext)
  (tSeq (tIfS (tTest (tOp rEq (tVar 3) (tC (.int 6)))) (tRet (tC1 (sp_l_residues_due K) (wE E) (tCons (tVar 0) (tCons (tVar 1) (tCons (tVar 2) (tCons (tC1 (sp_l_part K) (wE E) (tCons (tVar 2) (tCons (tVar 4) tNil))) tNil)))))) tNext)
  (tSeq (tIfS (tTest (tOp rEq (tVar 3) (tC (.int 3)))) (tRet (tTup (tCons (tVar 2) (tCons (tLc (iRng1 (tCons (tVar 2) tNil)) (gName 9) (tTest (tOp (rIn K true) (tVar 9) (tVar 0))) (tVar 9) [9]) (tCons (tLc (iList K (tVar 1)) (gName 10) tYes (tOp rSubI (tOp rAddI (tVar 10) (tVar 2)) (tOp rMulW (tC (.int 2)) (tCB (rLenQ K) (tCons (tVar 0) tNil)))) [10]) tNil))))) tNext)
  (tSeq (tAsg (tLc (iList K (tVar 0)) (gName 9) tYes (tOp rSubI (tC (.int 0)) (tVar 9)) [9]) (gName 5))
  (tSeq (tIfS (tTest (tOp rEq (tVar 3) (tC (.int 0)))) (tAsg (tLc (iList K (tVar 0)) (gName 9) tYes (tOp rAddI (tVar 9) (tC1 (sp_l_shift K) w0 (tCons (tVar 4) tNil))) [9]) (gName 5)) tNext)
  (tSeq (tIfS (tTest (tOp rEq (tVar 3) (tC (.int 1)))) (tAsg (tLc (iList K (tVar 0)) (gName 9) tYes (tOp rSubI (tVar 9) (tC1 (sp_l_shift K) w0 (tCons (tVar 4) tNil))) [9]) (gName 5)) tNext)
  (t_l_due_6 K E)))))))
def t_law_20 (K : PySem.W.Frag) (E : XK) : TS :=
  (tRet (tAndV (tC1 (sp_l_is_lot K) (wE E) (tCons (tVar 6) (tCons (tVar 5) (tCons (tVar 3) tNil)))) (tC1 (sp_l_is_lot K) (wE E) (tCons (tVar 7) (tCons (tVar 5) (tCons (tVar 4) tNil))))))
def t_law_19 (K : PySem.W.Frag) (E : XK) : TS :=
  (tSeq (tFor (iRng1 (tCons (tOp (rIxL K) (tVar 1) (tC (.int 5))) tNil)) (gName 18) (tSeq (tAsg (tC1 (sp_l_kind K) (wE E) (tCons (tVar 2) (tCons (tOp (rIxL K) (tVar 17) (tOp rMulW (tC (.int 2)) (tVar 18))) (tCons (tOp (rIxL K) (tVar 17) (tOp rAddI (tOp rMulW (tC (.int 2)) (tVar 18)) (tC (.int 1)))) tNil)))) (gName 19))
  (tSeq (tAsg (tC1 (sp_l5_told K) (wE E) (tCons (tVar 15) (tCons (tVar 2) (tCons (tVar 19) (tCons (tOp (rIxL K) (tVar 17) (tOp rAddI (tOp rMulW (tC (.int 2)) (tVar 18)) (tC (.int 1)))) tNil))))) (gName 14))
  (tSeq (tAsg (tC1 (sp_l_due K) (wE E) (tCons (tVar 16) (tCons (tVar 8) (tCons (tVar 2) (tCons (tVar 19) (tCons (tOp (rIxL K) (tVar 17) (tOp rAddI (tOp rMulW (tC (.int 2)) (tVar 18)) (tC (.int 1)))) tNil)))))) (gName 20))
  (tIfS (tTest (tOp rEq (tCB (rLenQ K) (tCons (tVar 20) tNil)) (tC (.int 2)))) (tIfS (tOr (tNot (tB (tC1 (sp_l_same 1 K) (wE E) (tCons (tVar 14) (tCons (tVar 20) tNil))))) (tNot (tB (tC1 (sp_l_is_lot K) (wE E) (tCons (tVar 15) (tCons (tVar 2) (tCons (tVar 16) tNil))))))) (tRet (tC (.bl false))) tNext) (tSeq (tAsg (tVar 20) (gTup K 3 (gCons (gName 2) (gCons (gName 16) (gCons (gName 8) gNil)))))
  (tSeq (tIfS (tOr (tNot (tB (tC1 (sp_l_is_lot K) (wE E) (tCons (tVar 14) (tCons (tVar 2) (tCons (tVar 16) tNil)))))) (tNot (tB (tC1 (sp_l_same 1 K) (wE E) (tCons (tC1 (sp_differences K) (wE E) (tCons (tVar 14) tNil)) (tCons (tVar 8) tNil)))))) (tRet (tC (.bl false))) tNext)
  (tAsg (tVar 14) (gName 15)))))))))
  (t_law_20 K E))
def t_law_18 (K : PySem.W.Frag) (E : XK) : TS :=
  (tSeq (tAsg (tC1 (sp_l_draws K) (wE E) (tCons (tC1 (sp_l_cell K) (wE E) (tCons (tVar 0) (tCons (tC (.int 3)) tNil))) (tCons (tC (.int 2086)) (tCons (tOp rRep (tLst (tCons (tC (.int 7)) (tCons (tC (.int 360)) tNil))) (tC (.int 12))) tNil)))) (gName 17))
  (t_law_19 K E))
def t_law_10 (K : PySem.W.Frag) (E : XK) : TS :=
  (tSeq (tAsg (tLst tNil) (gName 10))
  (tSeq (tFor (iList K (tVar 3)) (gName 11) (tDrop (tBM K "list" rExtend (tVar 10) (tCons (tLc (iList K (tVar 4)) (gName 21) tYes (tOp rModN (tCB rInt1 (tCons (tOp rAddI (tVar 11) (tVar 21)) tNil)) (tVar 2)) [21]) tNil))))
  (tSeq (tAsg (tC1 (sp_l_met K) (wE E) (tCons (tVar 10) (tCons (tVar 2) tNil))) (gName 12))
  (tSeq (tAsg (tLc (iRng1 (tCons (tVar 2) tNil)) (gName 11) (tTest (tOp rGtI (tOp (rIxL K) (tVar 12) (tVar 11)) (tC (.int 1)))) (tVar 11) [11]) (gName 13))
  (tSeq (tAsg (tC1 (sp_l5_sum K) (wE E) (tCons (tVar 6) (tCons (tVar 7) tNil))) (gName 14))
  (tSeq (tAsg (tVar 6) (gName 15))
  (tSeq (tAsg (tVar 3) (gName 16))
  (tSeq (tIfS (tTest (tOp rGtI (tCB (rLenQ K) (tCons (tVar 13) tNil)) (tC (.int 0)))) (tIfS (tNot (tB (tC1 (sp_l_same 1 K) (wE E) (tCons (tVar 14) (tCons (tTup (tCons (tC (.str "Meets")) (tCons (tOp (rIxL K) (tVar 13) (tC (.int 0))) tNil))) tNil))))) (tRet (tC (.bl false))) tNext) (tSeq (tAsg (tLc (iRng1 (tCons (tVar 2) tNil)) (gName 11) (tTest (tOp rEq (tOp (rIxL K) (tVar 12) (tVar 11)) (tC (.int 1)))) (tVar 11) [11]) (gName 16))
  (tSeq (tAsg (tC1 (sp_l_fold K) (wE E) (tCons (tVar 8) (tCons (tVar 9) (tCons (tVar 2) tNil)))) (gName 8))
  (tSeq (tIfS (tOr (tNot (tB (tC1 (sp_l_is_lot K) (wE E) (tCons (tVar 14) (tCons (tVar 2) (tCons (tVar 16) tNil)))))) (tNot (tB (tC1 (sp_l_same 1 K) (wE E) (tCons (tC1 (sp_differences K) (wE E) (tCons (tVar 14) tNil)) (tCons (tVar 8) tNil)))))) (tRet (tC (.bl false))) tNext)
  (tAsg (tVar 14) (gName 15))))))
  (t_law_18 K E)))))))))
def t_law_3 (K : PySem.W.Frag) (E : XK) : TS :=
  (tSeq (tAsg (tC1 (sp_l_lots K) (wE E) (tCons (tVar 0) (tCons (tVar 2) (tCons (tOp (rIxL K) (tVar 1) (tC (.int 3))) (tCons (tOp (rIxL K) (tVar 1) (tC (.int 4))) tNil))))) (gTup K 2 (gCons (gName 3) (gCons (gName 4) gNil))))
  (tSeq (tAsg (tVar 2) (gName 5))
  (tSeq (tAsg (tMk1 (He.ga K "Lot") (sp_Lot_init K) (wE E) (tCons (tVar 2) (tCons (tCB (rListOf K) (tCons (tVar 3) tNil)) tNil))) (gName 6))
  (tSeq (tAsg (tMk1 (He.ga K "Lot") (sp_Lot_init K) (wE E) (tCons (tVar 2) (tCons (tCB (rListOf K) (tCons (tVar 4) tNil)) tNil))) (gName 7))
  (tSeq (tAsg (tC1 (sp_l_counts K) (wE E) (tCons (tVar 3) (tCons (tVar 2) tNil))) (gName 8))
  (tSeq (tAsg (tC1 (sp_l_counts K) (wE E) (tCons (tVar 4) (tCons (tVar 2) tNil))) (gName 9))
  (tSeq (tIfS (tOr (tNot (tB (tC1 (sp_l_same 1 K) (wE E) (tCons (tC1 (sp_differences K) (wE E) (tCons (tVar 6) tNil)) (tCons (tVar 8) tNil))))) (tNot (tB (tC1 (sp_l_same 1 K) (wE E) (tCons (tC1 (sp_differences K) (wE E) (tCons (tVar 7) tNil)) (tCons (tVar 9) tNil)))))) (tRet (tC (.bl false))) tNext)
  (t_law_10 K E))))))))
def t_law (K : PySem.W.Frag) (E : XK) : TS :=
  (tSeq (tAsg (tC1 (sp_l_draws K) (wE E) (tCons (tC1 (sp_l_cell K) (wE E) (tCons (tVar 0) (tCons (tC (.int 0)) tNil))) (tCons (tC (.int 9141)) (tCons (tLst (tCons (tC (.int 8)) (tCons (tC (.int 24)) (tCons (tC (.int 60)) (tCons (tC (.int 24)) (tCons (tC (.int 2)) (tCons (tC (.int 13)) tNil))))))) tNil)))) (gName 1))
  (tSeq (tAsg (tOp rAddI (tC (.int 1)) (tOp (rIxL K) (tVar 1) (tC (.int 1)))) (gName 2))
  (tSeq (tIfS (tTest (tOp rEq (tOp (rIxL K) (tVar 1) (tC (.int 0))) (tC (.int 0)))) (tAsg (tOp rAddI (tC (.int 1)) (tOp (rIxL K) (tVar 1) (tC (.int 2)))) (gName 2)) tNext)
  (t_law_3 K E))))
end Bw

namespace Bw
/-! ### sums over lists -/
def S {α : Type} (l : List α) (f : α → Nat) : Nat := (l.map f).sum
def I (p : Prop) [Decidable p] : Nat := if p then 1 else 0
section
variable {α β : Type} {l m : List α} {f g : α → Nat}
theorem S_nil : S ([] : List α) f = 0 := rfl
theorem S_cons {a : α} : S (a :: l) f = f a + S l f := by simp [S]
theorem S_append : S (l ++ m) f = S l f + S m f := by simp [S]
theorem S_congr (h : ∀ x ∈ l, f x = g x) : S l f = S l g := by unfold S; rw [List.map_congr_left h]
theorem S_add : S l (fun x => f x + g x) = S l f + S l g := by
  induction l with
  | nil => rfl
  | cons a r ih => rw [S_cons, S_cons, S_cons, ih]; omega
theorem S_zero : S l (fun _ => 0) = 0 := by
  induction l with
  | nil => rfl
  | cons a r ih => rw [S_cons, ih]
theorem S_const {c : Nat} : S l (fun _ => c) = l.length * c := by
  induction l with
  | nil => simp [S]
  | cons a r ih => rw [S_cons, ih, List.length_cons, Nat.add_mul]; omega
theorem S_mul {c : Nat} : S l (fun x => f x * c) = S l f * c := by
  induction l with
  | nil => simp [S]
  | cons a r ih => rw [S_cons, S_cons, ih, Nat.add_mul]
theorem S_mul' {c : Nat} : S l (fun x => c * f x) = c * S l f := by
  induction l with
  | nil => simp [S]
  | cons a r ih => rw [S_cons, S_cons, ih, Nat.mul_add]
theorem S_swap {l' : List β} {h : α → β → Nat} : S l (fun x => S l' fun y => h x y) = S l' fun y => S l fun x => h x y := by
  induction l with
  | nil => rw [S_nil]; exact (S_zero (l := l')).symm
  | cons a r ih =>
    rw [S_cons, ih, ← S_add]
    exact S_congr fun y _ => (S_cons (f := fun x => h x y)).symm
theorem S_perm (p : l.Perm m) : S l f = S m f := (p.map f).sum_nat
theorem S_flatMap {l' : List β} {k : β → List α} : S (l'.flatMap k) f = S l' fun y => S (k y) f := by
  induction l' with
  | nil => rfl
  | cons a r ih => rw [List.flatMap_cons, S_append, S_cons, ih]
theorem S_map {l' : List β} {k : β → α} : S (l'.map k) f = S l' fun y => f (k y) := by unfold S; rw [List.map_map]; rfl
theorem S_countP {p : α → Bool} : S l (fun x => I (p x = true)) = l.countP p := by
  induction l with
  | nil => rfl
  | cons a r ih =>
    rw [S_cons, ih, List.countP_cons]
    unfold I
    split <;> omega
theorem S_filter {p : α → Bool} : S (l.filter p) f = S l fun x => if p x = true then f x else 0 := by
  induction l with
  | nil => rfl
  | cons a r ih =>
    rw [List.filter_cons, S_cons]
    by_cases h : p a = true
    · rw [if_pos h, S_cons, ih, if_pos h]
    · rw [if_neg h, ih, if_neg h]; omega
theorem I_congr {p q : Prop} [Decidable p] [Decidable q] (h : p ↔ q) : I p = I q := by unfold I; by_cases hp : p <;> simp [hp, h.mp, mt h.mpr, h.symm] <;> simp_all
theorem S_one [DecidableEq α] {a : α} (n : l.Nodup) : S l (fun x => I (x = a)) = I (a ∈ l) := by
  induction l with
  | nil => rfl
  | cons b r ih =>
    obtain ⟨h1, h2⟩ := List.nodup_cons.mp n
    rw [S_cons, ih h2]
    unfold I
    by_cases e : b = a
    · subst e
      rw [if_pos rfl, if_neg h1, if_pos List.mem_cons_self]
    · by_cases hm : a ∈ r
      · rw [if_neg e, if_pos hm, if_pos (List.mem_cons_of_mem _ hm)]
      · rw [if_neg e, if_neg hm, if_neg (fun z => by rcases List.mem_cons.mp z with z | z; exact e z.symm; exact hm z)]
end
theorem count_S (l : List Int) (d : Int) : l.count d = S l fun x => I (x = d) := by
  rw [List.count_eq_countP, ← S_countP]
  exact S_congr fun x _ => I_congr (by simp)
/-! ### residues -/
theorem sub_mod_iff {n a b d : Int} (ha : 0 ≤ a ∧ a < n) (hd : 0 ≤ d ∧ d < n) : (a - b) % n = d ↔ a = (b + d) % n := by
  constructor
  · intro h
    have e : (b + d) % n = (b + (a - b)) % n := by rw [← h, Int.add_emod_emod]
    rw [e, show b + (a - b) = a by omega]
    exact (Int.emod_eq_of_lt ha.1 ha.2).symm
  · intro h
    rw [h, Int.emod_sub_emod, show b + d - b = d by omega]
    exact Int.emod_eq_of_lt hd.1 hd.2
/-- the counts as a double sum -/
theorem cnt_E {n d : Int} {ms : List Int} (ok : LotOk n ms) (hd : 0 ≤ d ∧ d < n) : cnt1 n ms d = S ms fun b => S ms fun a => I ((a - b) % n = d) := by
  unfold cnt1
  rw [← S_countP]
  refine S_congr fun b _ => ?_
  rw [S_congr (g := fun a => I (a = (b + d) % n)) fun a ha => I_congr (sub_mod_iff (ok.rng a ha) hd), S_one (lt_nodup ok.asc)]
  exact I_congr (by simp)
theorem meet_counts {n : Int} {ms : List Int} (ok : LotOk n ms) : meetL n ms ms = countsL n ms := by
  unfold meetL tally countsL
  refine List.map_congr_left fun d hd => ?_
  have hd := mem_ring.mp hd
  rw [cnt_E ok hd, count_S]
  unfold pairsD
  rw [S_flatMap, S_swap]
  refine congrArg Int.ofNat (S_congr fun b _ => ?_)
  rw [S_map]
end Bw
namespace Bw
theorem emod_zero_iff {n a b : Int} : (a - b) % n = 0 ↔ a % n = b % n := Int.emod_eq_emod_iff_emod_sub_eq_zero.symm
/-- members moved by g: the double sum of the differences of g -/
theorem moved_E {n d : Int} {ms : List Int} {g : Int → Int} (n1 : 1 ≤ n) (n2 : n ≤ 360) (nd : (ms.map fun m => g m % n).Nodup) (hd : 0 ≤ d ∧ d < n) : cnt1 n (srt (ms.map fun m => g m % n)) d = S ms fun b => S ms fun a => I ((g a - g b) % n = d) := by
  have ok : LotOk n (srt (ms.map fun m => g m % n)) := moved_ok n1 n2 (fun r hr => by obtain ⟨k, _, rfl⟩ := List.mem_map.mp hr; exact emod_rng n1 _) nd
  rw [cnt_E ok hd, S_perm (srt_perm _), S_map]
  refine S_congr fun b _ => ?_
  rw [S_perm (srt_perm _), S_map]
  exact S_congr fun a _ => I_congr (by rw [Int.emod_sub_emod, Int.sub_emod_emod])
theorem counts_get {n d : Int} {ms : List Int} (hd : 0 ≤ d ∧ d < n) : (countsL n ms)[d.toNat]?.getD 0 = (cnt1 n ms d : Nat) := by
  unfold countsL
  rw [List.getElem?_map, ring_at hd.1 hd.2]
  rfl
theorem counts_len (n : Int) (ms : List Int) : (countsL n ms).length = n.toNat := by unfold countsL; rw [List.length_map, ring_len]
theorem counts_small {n : Int} {ms : List Int} (ok : LotOk n ms) : Small (countsL n ms) := fun c hc => by
  obtain ⟨d, _, rfl⟩ := List.mem_map.mp hc
  have := List.countP_le_length (p := fun b => decide ((b + d) % n ∈ ms)) (l := ms)
  have := ok.len
  unfold cnt1
  omega
theorem counts_ext {n : Int} {ms ms' : List Int} (h : ∀ d, 0 ≤ d ∧ d < n → cnt1 n ms d = cnt1 n ms' d) : countsL n ms = countsL n ms' := by
  unfold countsL
  exact List.map_congr_left fun d hd => by rw [h d (mem_ring.mp hd)]
theorem shift_counts {n k : Int} {ms : List Int} (ok : LotOk n ms) : countsL n (srt (ms.map fun m => (m + k) % n)) = countsL n ms := counts_ext fun d hd => by
  rw [moved_E (g := fun m => m + k) ok.n1 ok.n2 (move_nodup ok) hd, cnt_E ok hd]
  exact S_congr fun b _ => S_congr fun a _ => I_congr (by rw [show a + k - (b + k) = a - b by omega])
theorem neg_counts {n : Int} {ms : List Int} (ok : LotOk n ms) : countsL n (srt (ms.map fun m => (-m) % n)) = countsL n ms := counts_ext fun d hd => by
  rw [moved_E (g := fun m => -m) ok.n1 ok.n2 (neg_nodup ok) hd, cnt_E ok hd, S_swap]
  exact S_congr fun b _ => S_congr fun a _ => I_congr (by rw [show -b - -a = a - b by omega])
/-! ### units -/
theorem unit_dvd {t n x : Int} (n1 : 1 ≤ n) (t1 : 1 ≤ t) (h : gcdI t n = 1) (hx : (x * t) % n = 0) : x % n = 0 := by
  have hg : Nat.gcd t.toNat n.toNat = 1 := by unfold gcdI at h; omega
  have h1 : n ∣ x * t := Int.dvd_of_emod_eq_zero hx
  have h2 : n.natAbs ∣ x.natAbs * t.natAbs := by
    have := Int.natAbs_dvd_natAbs.mpr h1
    rwa [Int.natAbs_mul] at this
  have c : Nat.Coprime n.natAbs t.natAbs := by
    have e1 : n.natAbs = n.toNat := by omega
    have e2 : t.natAbs = t.toNat := by omega
    rw [e1, e2]
    exact (Nat.gcd_comm _ _).trans hg
  have h3 := c.dvd_of_dvd_mul_right h2
  exact Int.emod_eq_zero_of_dvd (Int.natAbs_dvd_natAbs.mp h3)
theorem factor_dvd {n b x : Int} (n1 : 1 ≤ n) (hx : (x * factorOf n b) % n = 0) : x % n = 0 := by
  obtain ⟨u, hu, e⟩ := factor_unit (b := b) n1
  have hf := List.mem_filter.mp hu
  have ho := mem_ones.mp hf.1
  refine unit_dvd n1 ho.1 (of_decide_eq_true hf.2) ?_
  rw [e, Int.mul_add, ← Int.mul_assoc, Int.mul_comm x n, Int.mul_assoc, Int.add_mul_emod_self_left] at hx
  exact hx
theorem factor_nodup {n b : Int} {ms : List Int} (ok : LotOk n ms) : (ms.map fun m => (m * factorOf n b) % n).Nodup := nodup_map_on (lt_nodup ok.asc) fun x hx y hy e => emod_inj (ok.rng x hx) (ok.rng y hy) (factor_dvd (b := b) ok.n1 (by
  have := emod_zero_iff.mpr e
  rw [← Int.sub_mul] at this
  exact this))
theorem factor_cnt {n b d : Int} {ms : List Int} (ok : LotOk n ms) (hd : 0 ≤ d ∧ d < n) : cnt1 n (srt (ms.map fun m => (m * factorOf n b) % n)) ((d * factorOf n b) % n) = cnt1 n ms d := by
  rw [moved_E (g := fun m => m * factorOf n b) ok.n1 ok.n2 (factor_nodup ok) (emod_rng ok.n1 _), cnt_E ok hd]
  refine S_congr fun y _ => S_congr fun x _ => I_congr ?_
  rw [← Int.sub_mul]
  constructor
  · intro h
    have h1 := emod_zero_iff.mpr h
    rw [← Int.sub_mul] at h1
    have h2 := emod_zero_iff.mp (factor_dvd (b := b) ok.n1 h1)
    rw [h2]
    exact Int.emod_eq_of_lt hd.1 hd.2
  · intro h
    rw [← h, Int.mul_emod ((x - y) % n), Int.emod_emod, ← Int.mul_emod]
end Bw
namespace Bw
/-! ### the other hours -/
theorem ring_shift {n d : Int} (n1 : 1 ≤ n) : ((ring n).map fun b => (b + d) % n).Perm (ring n) := by
  have nd : ((ring n).map fun b => (b + d) % n).Nodup := nodup_map_on (lt_nodup (ring_asc n)) fun x hx y hy e => emod_inj (mem_ring.mp hx) (mem_ring.mp hy) (by
    have := emod_zero_iff.mpr e
    rw [show x + d - (y + d) = x - y by omega] at this
    exact this)
  refine (List.perm_ext_iff_of_nodup nd (lt_nodup (ring_asc n))).mpr fun m => ?_
  rw [mem_ring]
  constructor
  · intro h
    obtain ⟨k, _, rfl⟩ := List.mem_map.mp h
    exact emod_rng n1 _
  · intro h
    refine List.mem_map.mpr ⟨(m - d) % n, mem_ring.mpr (emod_rng n1 _), ?_⟩
    rw [Int.emod_add_emod, show m - d + d = m by omega]
    exact Int.emod_eq_of_lt h.1 h.2
theorem S_mem_ring {n : Int} {ms : List Int} (ok : LotOk n ms) : (S (ring n) fun b => I (b ∈ ms)) = ms.length := by
  have h : (S (ring n) fun b => I (b ∈ ms)) = S (ring n) fun b => S ms fun a => I (a = b) := S_congr fun b _ => (S_one (lt_nodup ok.asc)).symm
  rw [h, S_swap]
  have h2 : (S ms fun y => S (ring n) fun x => I (y = x)) = S ms fun _ => 1 := S_congr fun y hy => by
    rw [S_congr (g := fun x => I (x = y)) fun x _ => I_congr ⟨Eq.symm, Eq.symm⟩, S_one (lt_nodup (ring_asc n))]
    unfold I
    rw [if_pos (mem_ring.mpr (ok.rng y hy))]
  rw [h2, S_const, Nat.mul_one]
theorem S_over_ring {n : Int} {ms : List Int} {f : Int → Nat} (ok : LotOk n ms) : S ms f = S (ring n) fun b => I (b ∈ ms) * f b := by
  have p : ms.Perm ((ring n).filter fun b => decide (b ∈ ms)) := (List.perm_ext_iff_of_nodup (lt_nodup ok.asc) (lt_nodup ((ring_asc n).sublist List.filter_sublist))).mpr fun m => by
    rw [List.mem_filter, mem_ring]
    exact ⟨fun h => ⟨ok.rng m h, decide_eq_true h⟩, fun h => of_decide_eq_true h.2⟩
  rw [S_perm p, S_filter]
  refine S_congr fun b _ => ?_
  unfold I
  by_cases h : b ∈ ms <;> simp [h]
theorem cnt_ring {n d : Int} {ms : List Int} (ok : LotOk n ms) : cnt1 n ms d = S (ring n) fun b => I (b ∈ ms) * I ((b + d) % n ∈ ms) := by
  unfold cnt1
  rw [← S_countP, S_over_ring ok]
  exact S_congr fun b _ => congrArg _ (I_congr (by simp))
theorem mem_inv {n : Int} {ms : List Int} {b : Int} : b ∈ invL n ms ↔ b ∈ ring n ∧ b ∉ ms := by unfold invL; rw [List.mem_filter]; simp
theorem inv_counts {n d : Int} {ms : List Int} (ok : LotOk n ms) : cnt1 n (invL n ms) d + 2 * ms.length = n.toNat + cnt1 n ms d := by
  rw [cnt_ring ok, cnt_ring (inv_ok ok)]
  have s1 := S_mem_ring ok
  have s2 : (S (ring n) fun b => I ((b + d) % n ∈ ms)) = ms.length := by
    rw [← s1]
    have e := S_perm (f := fun c => I (c ∈ ms)) (ring_shift (d := d) ok.n1)
    rw [S_map] at e
    exact e
  have s3 : (S (ring n) fun _ => 1) = n.toNat := by rw [S_const, ring_len, Nat.mul_one]
  have key : (S (ring n) fun b => I (b ∈ invL n ms) * I ((b + d) % n ∈ invL n ms) + (I (b ∈ ms) + I ((b + d) % n ∈ ms))) = S (ring n) fun b => 1 + I (b ∈ ms) * I ((b + d) % n ∈ ms) := S_congr fun b hb => by
    have hr : (b + d) % n ∈ ring n := mem_ring.mpr (emod_rng ok.n1 _)
    have e1 : I (b ∈ invL n ms) = I (b ∉ ms) := I_congr (by rw [mem_inv]; simp [hb])
    have e2 : I ((b + d) % n ∈ invL n ms) = I ((b + d) % n ∉ ms) := I_congr (by rw [mem_inv]; simp [hr])
    rw [e1, e2]
    unfold I
    by_cases h1 : b ∈ ms <;> by_cases h2 : (b + d) % n ∈ ms <;> simp [h1, h2]
  rw [S_add, S_add, S_add, s1, s2, s3] at key
  omega
/-! ### copies -/
theorem copies_E {n t d : Int} {ms : List Int} (ok : LotOk n ms) (t1 : 1 ≤ t) (b : n * t ≤ 360) (hd : 0 ≤ d ∧ d < n * t) : (cnt1 (n * t) (copies n ms t) d : Int) = t * (cnt1 n ms (d % n) : Nat) := by
  have n1 := ok.n1
  have p1 : 0 < n * t := Int.mul_pos (by omega) (by omega)
  have okc : LotOk (n * t) (copies n ms t) := ⟨by omega, b, copies_asc ok.rng n1 ok.asc, copies_rng ok.rng n1 (by omega)⟩
  have hdn := emod_rng n1 d
  have one : ∀ (z : Int) (l' : Int), 0 ≤ l' ∧ l' < t → (S (List.range t.toNat) fun lap : Nat => I ((z + ((lap : Int) - l') * n) % (n * t) = d)) = I (z % n = d % n) := by
    intro z l' hl'
    by_cases hz : z % n = d % n
    · have h0 : (d - z) % n = 0 := emod_zero_iff.mpr hz.symm
      obtain ⟨q, hq⟩ := Int.dvd_of_emod_eq_zero h0
      have hlap := emod_rng t1 (q + l')
      have : (S (List.range t.toNat) fun lap : Nat => I ((z + ((lap : Int) - l') * n) % (n * t) = d)) = S (List.range t.toNat) fun lap : Nat => I (lap = ((q + l') % t).toNat) := S_congr fun lap hlp => I_congr (by
        have hlp := List.mem_range.mp hlp
        have e1 : (z + ((lap : Int) - l') * n) % (n * t) = d ↔ (z + ((lap : Int) - l') * n - d) % (n * t) = 0 := by
          rw [emod_zero_iff, Int.emod_eq_of_lt hd.1 hd.2]
        rw [e1, show z + ((lap : Int) - l') * n - d = n * ((lap : Int) - (q + l')) by rw [Int.mul_sub, Int.mul_add, ← hq, Int.sub_mul, Int.mul_comm n lap, Int.mul_comm n l']; omega, Int.mul_emod_mul_of_pos _ _ (by omega)]
        constructor
        · intro h
          have h3 : ((lap : Int) - (q + l')) % t = 0 := by
            rcases Int.mul_eq_zero.mp h with h | h
            · omega
            · exact h
          have h4 := emod_zero_iff.mp h3
          rw [Int.emod_eq_of_lt (by omega) (by omega)] at h4
          omega
        · intro h
          have h4 : (lap : Int) = (q + l') % t := by omega
          rw [emod_zero_iff.mpr (by rw [h4, Int.emod_emod]), Int.mul_zero])
      rw [this, S_one List.nodup_range]
      exact I_congr ⟨fun _ => hz, fun _ => List.mem_range.mpr (by omega)⟩
    · have : (S (List.range t.toNat) fun lap : Nat => I ((z + ((lap : Int) - l') * n) % (n * t) = d)) = S (List.range t.toNat) fun _ => 0 := S_congr fun lap _ => by
        unfold I
        rw [if_neg fun h => hz ?_]
        have h2 : ((z + ((lap : Int) - l') * n) % (n * t)) % n = d % n := by rw [h]
        rw [Int.emod_emod_of_dvd _ ⟨t, rfl⟩, Int.add_mul_emod_self_right] at h2
        exact h2
      rw [this, S_zero]
      unfold I
      rw [if_neg hz]
  rw [cnt_E okc hd, cnt_E ok hdn]
  have go : (S (copies n ms t) fun b => S (copies n ms t) fun a => I ((a - b) % (n * t) = d)) = S (List.range t.toNat) fun l' : Nat => S ms fun y => S ms fun x => I ((x - y) % n = d % n) := by
    unfold copies
    rw [S_flatMap]
    refine S_congr fun l' hl' => ?_
    have hl' := List.mem_range.mp hl'
    rw [S_map]
    refine S_congr fun y _ => ?_
    rw [S_flatMap]
    have e : (S (List.range t.toNat) fun lap : Nat => S (ms.map fun a : Int => a + (lap : Int) * n) fun a => I ((a - (y + (l' : Int) * n)) % (n * t) = d)) = S (List.range t.toNat) fun lap : Nat => S ms fun x => I ((x - y + ((lap : Int) - l') * n) % (n * t) = d) := S_congr fun lap _ => by
      rw [S_map]
      exact S_congr fun x _ => I_congr (by rw [Int.sub_mul, show x + (lap : Int) * n - (y + (l' : Int) * n) = x - y + ((lap : Int) * n - l' * n) by omega])
    rw [e, S_swap]
    exact S_congr fun x _ => one (x - y) l' (by omega)
  rw [go, S_const, List.length_range]
  rw [Int.natCast_mul, show ((t.toNat : Nat) : Int) = t by omega]
/-! ### residues by a divisor -/
theorem resid_cnt {n m d : Int} {ms : List Int} (ok : LotOk n ms) (m1 : 1 ≤ m) (mn : m ≤ n) (hm : n % m = 0) (nd : (ms.map fun x => x % m).Nodup) (hd : 0 ≤ d ∧ d < m) :
    cnt1 m (srt (ms.map fun x => x % m)) d = S ((ring n).filter fun e => decide (e % m = d)) fun e => cnt1 n ms e := by
  rw [moved_E (g := fun x => x) m1 (by have := ok.n2; omega) nd hd]
  have h : (S ((ring n).filter fun e => decide (e % m = d)) fun e => cnt1 n ms e) = S ((ring n).filter fun e => decide (e % m = d)) fun e => S ms fun b => S ms fun a => I (e = (a - b) % n) := S_congr fun e he => by
    rw [cnt_E ok (mem_ring.mp (List.mem_filter.mp he).1)]
    exact S_congr fun b _ => S_congr fun a _ => I_congr ⟨Eq.symm, Eq.symm⟩
  rw [h]
  refine Eq.trans ?_ (S_swap (l := ms) (l' := (ring n).filter fun e => decide (e % m = d)) (h := fun b e => S ms fun a => I (e = (a - b) % n)))
  refine S_congr fun b _ => ?_
  refine Eq.trans ?_ (S_swap (l := ms) (l' := (ring n).filter fun e => decide (e % m = d)) (h := fun a e => I (e = (a - b) % n)))
  refine S_congr fun a _ => ?_
  rw [S_one (lt_nodup ((ring_asc n).sublist List.filter_sublist))]
  refine I_congr ?_
  rw [List.mem_filter, decide_eq_true_eq, Int.emod_emod_of_dvd _ (Int.dvd_of_emod_eq_zero hm)]
  exact ⟨fun h => ⟨mem_ring.mpr (emod_rng ok.n1 _), h⟩, fun h => h.2⟩
end Bw
namespace Bw
theorem sum_cast {α : Type} (l : List α) (f : α → Nat) : (l.map fun x => ((f x : Nat) : Int)).sum = ((S l f : Nat) : Int) := by
  induction l with
  | nil => rfl
  | cons a r ih => rw [List.map_cons, List.sum_cons, ih, S_cons]; omega
theorem ring_filter {n : Int} {rs : List Int} (hr : ∀ r ∈ rs, 0 ≤ r ∧ r < n) (nd : rs.Nodup) : (ring n).filter (fun h => decide (h ∈ rs)) = srt rs := by
  have asc : ((ring n).filter fun h => decide (h ∈ rs)).Pairwise (· < ·) := (ring_asc n).sublist List.filter_sublist
  refine srt_unique ((List.perm_ext_iff_of_nodup (lt_nodup asc) nd).mpr fun m => ?_) (lt_le asc)
  rw [List.mem_filter, mem_ring, decide_eq_true_eq]
  exact ⟨fun h => h.2, fun h => ⟨hr m h, h⟩⟩
theorem fold_keep {tg : Int → Nat} {v : Int → Int} {j : Nat} : ∀ (l : List Int) (f : List Int), j ∉ l.map tg → (l.foldl (fun f d => f.set (tg d) (v d)) f)[j]? = f[j]?
  | [], _, _ => rfl
  | a :: r, f, h => by
    rw [List.map_cons, List.mem_cons, not_or] at h
    rw [List.foldl_cons, fold_keep r _ h.2, List.getElem?_set_ne (Ne.symm h.1)]
theorem fold_get {tg : Int → Nat} {v : Int → Int} : ∀ (l : List Int) (f : List Int), (l.map tg).Nodup → ∀ d ∈ l, tg d < f.length → (l.foldl (fun f d => f.set (tg d) (v d)) f)[tg d]? = some (v d)
  | [], _, _, d, h, _ => by cases h
  | a :: r, f, nd, d, h, hl => by
    obtain ⟨h1, h2⟩ := List.nodup_cons.mp (by rw [List.map_cons] at nd; exact nd)
    rw [List.foldl_cons]
    rcases List.mem_cons.mp h with rfl | h
    · rw [fold_keep r _ h1, List.getElem?_set_self hl]
    · exact fold_get r _ h2 d h (by rw [List.length_set]; exact hl)
theorem factor_perm {n b : Int} (n1 : 1 ≤ n) : ((ring n).map fun d => (d * factorOf n b) % n).Perm (ring n) := by
  have nd : ((ring n).map fun d => (d * factorOf n b) % n).Nodup := nodup_map_on (lt_nodup (ring_asc n)) fun x hx y hy e => emod_inj (mem_ring.mp hx) (mem_ring.mp hy) (factor_dvd (b := b) n1 (by
    have := emod_zero_iff.mpr e
    rw [← Int.sub_mul] at this
    exact this))
  have sub : ((ring n).map fun d => (d * factorOf n b) % n) ⊆ ring n := fun m hm => by
    obtain ⟨k, _, rfl⟩ := List.mem_map.mp hm
    exact mem_ring.mpr (emod_rng n1 _)
  refine (List.perm_ext_iff_of_nodup nd (lt_nodup (ring_asc n))).mpr fun m => ⟨fun h => sub h, fun h => ?_⟩
  refine Classical.byContradiction fun hn => ?_
  have h2 : (m :: (ring n).map fun d => (d * factorOf n b) % n).Nodup := List.nodup_cons.mpr ⟨hn, nd⟩
  have s2 := asc_len (srt (m :: (ring n).map fun d => (d * factorOf n b) % n)) 0 n (le_nodup_lt (srt_le _) (srt_nodup h2)) fun x hx => by
    rcases List.mem_cons.mp (mem_srt.mp hx) with rfl | hx
    · exact mem_ring.mp h
    · exact mem_ring.mp (sub hx)
  rw [srt_length, List.length_cons, List.length_map, ring_len] at s2
  omega
theorem factor_list {n b : Int} {ms : List Int} (ok : LotOk n ms) : ((ring n).foldl (fun found d => found.set ((d * factorOf n b) % n).toNat ((countsL n ms)[d.toNat]?.getD 0)) (countsL n ms)) = countsL n (srt (ms.map fun m => (m * factorOf n b) % n)) := by
  have n1 := ok.n1
  have pm := factor_perm (b := b) n1
  refine List.ext_getElem? fun j => ?_
  have flen : ∀ (l : List Int) (f : List Int), (l.foldl (fun found d => found.set ((d * factorOf n b) % n).toNat ((countsL n ms)[d.toNat]?.getD 0)) f).length = f.length := by
    intro l
    induction l with
    | nil => intro f; rfl
    | cons a r ih => intro f; rw [List.foldl_cons, ih, List.length_set]
  by_cases hj : j < n.toNat
  · have hm : (j : Int) ∈ (ring n).map fun d => (d * factorOf n b) % n := pm.mem_iff.mpr (mem_ring.mpr (by omega))
    obtain ⟨d, hd, e⟩ := List.mem_map.mp hm
    have hd' := mem_ring.mp hd
    have ej : ((d * factorOf n b) % n).toNat = j := by omega
    have nd : ((ring n).map fun d => ((d * factorOf n b) % n).toNat).Nodup := by
      have e2 : ((ring n).map fun d => ((d * factorOf n b) % n).toNat) = ((ring n).map fun d => (d * factorOf n b) % n).map Int.toNat := by rw [List.map_map]; rfl
      rw [e2]
      refine nodup_map_on (pm.nodup_iff.mpr (lt_nodup (ring_asc n))) fun x hx y hy exy => ?_
      have h1 := mem_ring.mp (pm.mem_iff.mp hx)
      have h2 := mem_ring.mp (pm.mem_iff.mp hy)
      omega
    have g := fold_get (tg := fun d => ((d * factorOf n b) % n).toNat) (v := fun d => (countsL n ms)[d.toNat]?.getD 0) (ring n) (countsL n ms) nd d hd (by rw [counts_len, ej]; exact hj)
    rw [ej] at g
    rw [g, counts_get hd']
    have h2 := emod_rng n1 (d * factorOf n b)
    have : (countsL n (srt (ms.map fun m => (m * factorOf n b) % n)))[((d * factorOf n b) % n).toNat]? = some ((cnt1 n (srt (ms.map fun m => (m * factorOf n b) % n)) ((d * factorOf n b) % n) : Nat) : Int) := by
      unfold countsL
      rw [List.getElem?_map, ring_at h2.1 h2.2]
      rfl
    rw [← ej, this, factor_cnt ok hd']
  · rw [List.getElem?_eq_none (by rw [flen, counts_len]; omega), List.getElem?_eq_none (by rw [counts_len]; omega)]
/-- a deed's outcome is what is due -/
theorem due_deed {n k b : Int} {ms : List Int} (ok : LotOk n ms) (k0 : 0 ≤ k) (k1 : k < 7) (h5 : k = 5 → n * (2 + b % 2) ≤ 360) :
    (∃ h, deedOut n ms k b = .meets h ∧ due5' n ms (countsL n ms) k b = .inr h) ∨ ∃ n' ms', deedOut n ms k b = .lot n' ms' ∧ LotOk n' ms' ∧ n' ≤ (if k = 5 then n * (2 + b % 2) else n) ∧ due5' n ms (countsL n ms) k b = .inl (n', ms', countsL n' ms') := by
  have n1 := ok.n1
  have n2 := ok.n2
  have rb := emod_rng (n := 2) (by decide) b
  have mv : ∀ (g : Int → Int) (nd : (ms.map fun m => g m % n).Nodup), (ring n).filter (fun h => decide (h ∈ (ms.map g).map fun m => m % n)) = srt (ms.map fun m => g m % n) ∧ LotOk n (srt (ms.map fun m => g m % n)) := fun g nd => by
    have e : (ms.map g).map (fun m => m % n) = ms.map fun m => g m % n := by rw [List.map_map]; rfl
    have hr : ∀ r ∈ ms.map (fun m => g m % n), 0 ≤ r ∧ r < n := fun r hr => by obtain ⟨k, _, rfl⟩ := List.mem_map.mp hr; exact emod_rng n1 _
    rw [e]
    exact ⟨ring_filter hr nd, moved_ok n1 n2 hr nd⟩
  unfold deedOut due5'
  by_cases e0 : k = 0
  · obtain ⟨f1, f2⟩ := mv (fun m => m + shiftOf b) (move_nodup ok)
    rw [if_pos e0, if_neg (by omega), if_neg (by omega), if_neg (by omega), if_neg (by omega), if_neg (by omega)]
    unfold moved5
    rw [if_pos e0]
    exact .inr ⟨_, _, rfl, f2, Int.le_refl _, by rw [f1, shift_counts ok]⟩
  rw [if_neg e0]
  by_cases e1 : k = 1
  · obtain ⟨f1, f2⟩ := mv (fun m => m - shiftOf b) (move_nodup (k := -shiftOf b) ok)
    rw [if_pos e1, if_neg (by omega), if_neg (by omega), if_neg (by omega), if_neg (by omega), if_neg (by omega)]
    unfold moved5
    rw [if_neg e0, if_pos e1]
    exact .inr ⟨_, _, rfl, f2, Int.le_refl _, by rw [f1]; exact congrArg _ (congrArg _ (congrArg _ (shift_counts (k := -shiftOf b) ok).symm))⟩
  rw [if_neg e1]
  by_cases e2 : k = 2
  · obtain ⟨f1, f2⟩ := mv (fun m => -m) (neg_nodup ok)
    rw [if_pos e2, if_neg (by omega), if_neg (by omega), if_neg (by omega), if_neg (by omega), if_neg (by omega)]
    unfold moved5
    rw [if_neg e0, if_neg e1, if_neg (by omega)]
    have ez : ms.map (fun m => 0 - m) = ms.map fun m => -m := List.map_congr_left fun m _ => by omega
    exact .inr ⟨_, _, rfl, f2, Int.le_refl _, by rw [ez, f1, neg_counts ok]⟩
  rw [if_neg e2]
  by_cases e3 : k = 3
  · have n5 : ¬ k = 5 := by omega
    have n6 : ¬ k = 6 := by omega
    simp only [if_pos e3, if_neg n5, if_neg n6]
    refine .inr ⟨_, _, rfl, inv_ok ok, Int.le_refl _, ?_⟩
    refine congrArg Sum.inl (congrArg (fun z => (n, invL n ms, z)) ?_)
    unfold countsL
    rw [List.map_map]
    refine List.map_congr_left fun d hd => ?_
    have := inv_counts (d := d) ok
    show ((cnt1 n ms d : Nat) : Int) + n - 2 * (ms.length : Nat) = (cnt1 n (invL n ms) d : Nat)
    omega
  rw [if_neg e3]
  by_cases e4 : k = 4
  · obtain ⟨f1, f2⟩ := mv (fun m => m * factorOf n b) (factor_nodup ok)
    have n5 : ¬ k = 5 := by omega
    have n6 : ¬ k = 6 := by omega
    simp only [if_pos e4, if_neg n5, if_neg n6, if_neg e3]
    unfold moved5 mulOut onceOut
    rw [if_neg e0, if_neg e1, if_pos e4, rep_none_of_nodup (factor_nodup ok)]
    exact .inr ⟨_, _, rfl, f2, Int.le_refl _, by rw [f1, factor_list ok]⟩
  rw [if_neg e4]
  by_cases e5 : k = 5
  · have hb := h5 e5
    rw [if_pos e5, if_pos e5, if_pos e5]
    unfold powOut
    rw [if_neg (by omega), if_neg (by omega)]
    have p1 : 0 < n * (2 + b % 2) := Int.mul_pos (by omega) (by omega)
    refine .inr ⟨_, _, rfl, ⟨by omega, hb, copies_asc ok.rng n1 ok.asc, copies_rng ok.rng n1 (by omega)⟩, Int.le_refl _, ?_⟩
    refine congrArg Sum.inl (congrArg (fun z => (n * (2 + b % 2), copies n ms (2 + b % 2), z)) ?_)
    unfold countsL
    refine List.map_congr_left fun d hd => ?_
    have hd := mem_ring.mp hd
    have := counts_get (ms := ms) (emod_rng n1 d)
    unfold countsL at this
    rw [this, copies_E ok (by omega) hb hd]
  rw [if_neg e5, if_neg e5, if_neg e5]
  have e6 : k = 6 := by omega
  have pm := parts_mem (b := b) n1
  rw [if_pos e6]
  unfold modOut resDue onceOut
  rw [if_neg (by omega)]
  have hrr : ∀ r ∈ ms.map (fun x => x % partOf n b), 0 ≤ r ∧ r < partOf n b := fun r hr => by obtain ⟨k, _, rfl⟩ := List.mem_map.mp hr; exact emod_rng pm.1 k
  cases e : rep (ms.map fun x => x % partOf n b) with
  | some h => exact .inl ⟨h, rfl, rfl⟩
  | none =>
    have nd := rep_none_nodup e
    refine .inr ⟨_, _, rfl, once_ok pm.1 (by omega) hrr e, pm.2.1, ?_⟩
    refine congrArg Sum.inl (congrArg (fun z => (partOf n b, srt (ms.map fun x => x % partOf n b), z)) ?_)
    conv => rhs; unfold countsL
    refine List.map_congr_left fun d hd => ?_
    have hd := mem_ring.mp hd
    rw [resid_cnt ok pm.1 pm.2.1 pm.2.2 nd hd, ← sum_cast]
    refine congrArg List.sum (List.map_congr_left fun x hx => ?_)
    exact counts_get (mem_ring.mp (List.mem_filter.mp hx).1)
/-- a direct sum -/
theorem sum_counts {n : Int} {ms ms' : List Int} (ok : LotOk n ms) (ok' : LotOk n ms') (e : rep (ms.flatMap fun a => ms'.map fun b => (a + b) % n) = none) :
    foldL n (countsL n ms) (countsL n ms') = countsL n (srt (ms.flatMap fun a => ms'.map fun b => (a + b) % n)) := by
  have n1 := ok.n1
  have hr : ∀ r ∈ ms.flatMap fun a => ms'.map fun b => (a + b) % n, 0 ≤ r ∧ r < n := fun r hr => by
    obtain ⟨i, _, hr⟩ := List.mem_flatMap.mp hr
    obtain ⟨k, _, rfl⟩ := List.mem_map.mp hr
    exact emod_rng n1 _
  have oks := once_ok n1 ok.n2 hr e
  unfold foldL
  conv => rhs; unfold countsL
  refine List.map_congr_left fun d hd => ?_
  have hd := mem_ring.mp hd
  have e1 : ((ring n).map fun e => ((countsL n ms)[e.toNat]?.getD 0) * ((countsL n ms')[((d - e) % n).toNat]?.getD 0)) = (ring n).map fun e => (((cnt1 n ms e * cnt1 n ms' ((d - e) % n) : Nat)) : Int) := List.map_congr_left fun x hx => by
    rw [counts_get (mem_ring.mp hx), counts_get (emod_rng n1 _), Int.natCast_mul]
  rw [e1, sum_cast, cnt_E oks hd]
  refine congrArg Int.ofNat ?_
  have lhs : (S (ring n) fun e => cnt1 n ms e * cnt1 n ms' ((d - e) % n)) = S ms fun b => S ms fun a => S ms' fun b' => S ms' fun a' => I ((a' - b') % n = (d - (a - b) % n) % n) := by
    have h1 : (S (ring n) fun e => cnt1 n ms e * cnt1 n ms' ((d - e) % n)) = S (ring n) fun e => S ms fun b => S ms fun a => I (e = (a - b) % n) * cnt1 n ms' ((d - e) % n) := S_congr fun x hx => by
      rw [cnt_E ok (mem_ring.mp hx), ← S_mul]
      refine S_congr fun b _ => ?_
      rw [← S_mul]
      exact S_congr fun a _ => congrArg (· * _) (I_congr ⟨Eq.symm, Eq.symm⟩)
    rw [h1]
    refine Eq.trans (S_swap (l := ring n) (l' := ms) (h := fun e b => S ms fun a => I (e = (a - b) % n) * cnt1 n ms' ((d - e) % n))) (S_congr fun b _ => ?_)
    refine Eq.trans (S_swap (l := ring n) (l' := ms) (h := fun e a => I (e = (a - b) % n) * cnt1 n ms' ((d - e) % n))) (S_congr fun a _ => ?_)
    have h2 : (S (ring n) fun e => I (e = (a - b) % n) * cnt1 n ms' ((d - e) % n)) = S (ring n) fun e => I (e = (a - b) % n) * cnt1 n ms' ((d - (a - b) % n) % n) := S_congr fun x _ => by
      unfold I
      by_cases h : x = (a - b) % n
      · rw [h]
      · rw [if_neg h, Nat.zero_mul, Nat.zero_mul]
    rw [h2, S_mul, S_one (lt_nodup (ring_asc n)), cnt_E ok' (emod_rng n1 _)]
    unfold I
    rw [if_pos (mem_ring.mpr (emod_rng n1 _)), Nat.one_mul]
  rw [lhs, S_perm (srt_perm _), S_flatMap]
  refine S_congr fun b _ => ?_
  rw [S_map]
  have rhs : ∀ b', (S (srt (ms.flatMap fun a => ms'.map fun b => (a + b) % n)) fun a => I ((a - (b + b') % n) % n = d)) = S ms fun a => S ms' fun a' => I (((a + a') % n - (b + b') % n) % n = d) := fun b' => by
    rw [S_perm (srt_perm _), S_flatMap]
    exact S_congr fun a _ => S_map
  rw [S_congr (g := fun b' => S ms fun a => S ms' fun a' => I (((a + a') % n - (b + b') % n) % n = d)) fun b' _ => rhs b']
  refine Eq.trans ?_ (S_swap (l := ms) (l' := ms') (h := fun a b' => S ms' fun a' => I (((a + a') % n - (b + b') % n) % n = d)))
  refine S_congr fun a _ => S_congr fun b' _ => S_congr fun a' _ => I_congr ?_
  rw [Int.sub_emod_emod, Int.emod_sub_emod, Int.sub_emod_emod]
  have e2 : (a + a' - (b + b')) = (a' - b') - (d - (a - b)) + d := by omega
  constructor
  · intro h
    have h0 := emod_zero_iff.mpr h
    rw [e2, Int.add_emod, h0, Int.zero_add, Int.emod_emod]
    exact Int.emod_eq_of_lt hd.1 hd.2
  · intro h
    refine emod_zero_iff.mp ?_
    have h3 : (a + a' - (b + b')) % n = d % n := by rw [h, Int.emod_eq_of_lt hd.1 hd.2]
    have h4 := emod_zero_iff.mpr h3
    rw [show a + a' - (b + b') - d = a' - b' - (d - (a - b)) by omega] at h4
    exact h4
end Bw

namespace Bw
open PySem PySem.Spec PyProof.Rows L2
local macro_rules
  | `(tactic| bv_omega) => `(tactic| simp only [L2.start, tSeq, tIfS, tNot, tTest, tChain, tOp, tUn, tC, tVar, rI0, rI, rU, tRet, tAsg, gName, tNext, tRetN, tDrop, tB, tAnd, tOr, tIf, tAndV, tOrV, tNotV, tCB, tC1, tNil, tCons, tFldI, tConI, tYes, tPar, tRse, tMkP, tMkE, wE, WE, tBinI, tBinN, tUnI, tMk1, tM1, tRefI, tTup, tLst, tSl, tNoPart, tPart,
      rIxL, rIxT, rIxS, rLenQ, rLenStr, rAbs, rMin2, rMax2, rListOf, rIsNo, rNotNo, rIsL, rAddS, rCat, rRep, rSetL, rAppend, rExtend, tBM, gSub, gTup, gCons, gNil, iList, iTup, iRng1, iRng2, rEq, rNe,
      List.map_cons, List.map_nil, List.length_cons, List.length_nil, List.replicate_succ, List.replicate_zero, List.cons_append, List.nil_append, List.append_nil, List.set_cons_zero, List.set_cons_succ, List.getElem?_cons_zero, List.getElem?_cons_succ, Nat.reduceAdd, Nat.reduceSub,
      Option.some.injEq, exists_eq_left', V.int.injEq, V.bl.injEq, V.ref.injEq, V.str.injEq, List.cons.injEq, and_true, true_and, exists_and_left, Bool.not_true, Bool.not_false, Bool.false_eq_true, if_false, if_true, reduceIte, decide_eq_true_eq, Bool.not_eq_true', decide_eq_false_iff_not, HO.ins.injEq, HO.lst.injEq, HO.tup.injEq, lot_h, lot_m, L2.wipe, rInt1_int])
theorem pure_hours_checked {K : PySem.W.Frag} (F : KF K) (vs : List V) (H : Hp) (Q : VK) (E : XK) (h : sp_hours_checked K vs H Q E) : t_hours_checked K E { nx := fun _ H' => Q .non H', rt := Q } (start ["hours", "most"] vs) H := by
  obtain ⟨n, m, rfl, h⟩ := h
  unfold t_hours_checked
  bv_omega
  have bad : ¬ (1 ≤ n ∧ n ≤ m) → ok2 [V.str "hours", V.int n] ∧ ∀ d : Addr, H d = none → E (Value.ref (He.ga K "BadNumber")) (some d) (upd H d (HO.xd (fs2 "name" "value" [V.str "hours", V.int n]))) := fun hc => by
    rw [if_neg hc] at h
    exact ⟨⟨"hours", .int n, rfl, by decide⟩, fun d hd => h _ _ (ext_new hd) upd_same⟩
  by_cases h1 : 1 ≤ n
  · rw [if_pos h1]
    by_cases h2 : n ≤ m
    · rw [if_neg (fun z => z h2)]
      rw [if_pos ⟨h1, h2⟩] at h
      exact h
    · rw [if_pos h2]
      exact bad fun z => h2 z.2
  · rw [if_neg h1]
    exact bad fun z => h1 z.1
theorem pure_rings_checked {K : PySem.W.Frag} (F : KF K) (vs : List V) (H : Hp) (Q : VK) (E : XK) (h : sp_rings_checked K vs H Q E) : t_rings_checked K E { nx := fun _ H' => Q .non H', rt := Q } (start ["one", "other"] vs) H := by
  obtain ⟨a, b, n, n', ms, ms', rfl, ⟨o1, dx, lm, e1, m1⟩, ⟨o2, dx', lm', e2, m2⟩, h⟩ := h
  unfold t_rings_checked
  bv_omega
  refine ⟨_, _, e1, _, rfl, _, _, e2, _, rfl, rfl, ?_⟩
  by_cases hn : n = n'
  · rw [if_pos hn] at h
    simpa [hn] using h
  · rw [if_neg hn] at h
    simp only [V.int.injEq, hn, if_true, not_false_eq_true]
    exact h _ (Ext.refl _)
theorem pure_Lot_members {K : PySem.W.Frag} (F : KF K) (vs : List V) (H : Hp) (Q : VK) (E : XK) (h : sp_Lot_members K vs H Q E) : t_Lot_members K E { nx := fun _ H' => Q .non H', rt := Q } (start ["self"] vs) H := by
  obtain ⟨a, n, ms, rfl, ⟨o1, dx, lm, e1, m1⟩, h⟩ := h
  unfold t_Lot_members
  bv_omega
  exact ⟨_, _, e1, _, rfl, lm, rfl, _, .inl (sqL_of m1), fun l hl => h _ _ (ext_new hl) upd_same⟩
theorem pure_l_cell {K : PySem.W.Frag} (F : KF K) (vs : List V) (H : Hp) (Q : VK) (E : XK) (h : sp_l_cell K vs H Q E) : t_l_cell K E { nx := fun _ H' => Q .non H', rt := Q } (start ["script", "k"] vs) H := by
  obtain ⟨a, ns, k, rfl, hS, h⟩ := h
  unfold t_l_cell
  bv_omega
  refine ⟨_, .inl hS, ?_⟩
  rw [List.length_map]
  by_cases hk : k < ns.length
  · rw [if_pos (by omega)]
    refine ⟨_, hS, _, ?_, _, rfl, h (if ns[k] < 0 then -ns[k] else ns[k]) ?_⟩
    · unfold atI ixN
      rw [List.length_map, if_pos (by omega), if_pos (by omega)]
      simp [hk]
    · split <;> omega
  · rw [if_neg (by omega)]
    exact h 0 (Int.le_refl _)
theorem pure_l_is_int {K : PySem.W.Frag} (F : KF K) (vs : List V) (H : Hp) (Q : VK) (E : XK) (h : sp_l_is_int K vs H Q E) : t_l_is_int K E { nx := fun _ H' => Q .non H', rt := Q } (start ["x"] vs) H := by
  obtain ⟨i, rfl, h⟩ := h
  unfold t_l_is_int
  bv_omega
  exact ⟨_, _, _, _, true, rfl, .ty _, .base (.int i), rfl, _, rfl, _, _, _, _, false, rfl, .ty _, .base (.int i), rfl, _, rfl, h⟩
theorem pure_each_once {K : PySem.W.Frag} (F : KF K) (vs : List V) (H : Hp) (Q : VK) (E : XK) (h : sp_each_once K vs H Q E) : t_each_once K E { nx := fun _ H' => Q .non H', rt := Q } (start ["residues", "ascending", "at", "residue"] vs) H := by
  obtain ⟨a, rs, rfl, h1, h2, h⟩ := h
  refine ⟨_, rfl, a, rfl, ⟨_, h1⟩, fun D hD => lcF (fI fun i => some i) hD (fun H' x => src_list (sqL_ext x h1)) (by rw [List.length_map, sizeLine_eq]; omega) ?_ ?_⟩
  · intro x hx H' e R N hR hN
    obtain ⟨i, hi, rfl⟩ := mem_mapI hx
    bv_omega
    exact hR _ rfl
  · rw [fm_fI, fm_some, List.map_id']
    refine ⟨D, rs, rfl, sqL_of upd_same, fun ns' p hp hle hn => ?_⟩
    have e := srt_unique hp hle
    subst e
    have hDp : H p = none := fr_of (ext_new hD) hn
    have x0 : Ext H (upd (upd H D (.lst (rs.map V.int))) p (.lst ((srt rs).map V.int))) := ext_set (ext_new hD) hDp
    refine ⟨_, rfl, p, _, rfl, .inl (sqL_of upd_same), 1, ((srt rs).length : Nat), by rw [List.length_map] <;> rfl, by rw [srt_length]; omega, forS (xs := rngV 1 ((srt rs).length - 1 : Int).toNat) (fun i σ H' => H' = upd (upd H D (.lst (rs.map V.int))) p (.lst ((srt rs).map V.int)) ∧ (∃ v, σ = [some (.ref a), some (.ref p), v, none]) ∧ ∀ j, j < i → (srt rs)[j]? ≠ (srt rs)[j + 1]?) ?_ (fun _ _ _ _ _ => src_rng) ?_ ?_⟩
    · exact ⟨rfl, ⟨_, rfl⟩, fun j hj => absurd hj (Nat.not_lt_zero _)⟩
    · rintro i x σ H' e ⟨rfl, ⟨v, rfl⟩, hj⟩
      rw [rngV_get] at e
      by_cases hi : i < ((srt rs).length - 1 : Int).toNat
      · rw [if_pos hi] at e
        cases e
        have b1 : i + 1 < (srt rs).length := by omega
        have g1 : (srt rs)[i]? = some (srt rs)[i] := List.getElem?_eq_getElem _
        have g2 : (srt rs)[i + 1]? = some (srt rs)[i + 1] := List.getElem?_eq_getElem _
        have m1 : ((srt rs).map V.int)[i]? = some (.int (srt rs)[i]) := by rw [List.getElem?_map, g1] <;> rfl
        have m2 : ((srt rs).map V.int)[i + 1]? = some (.int (srt rs)[i + 1]) := by rw [List.getElem?_map, g2] <;> rfl
        bv_omega
        refine ⟨_, sqL_of upd_same, _, atI_nat (k := i + 1) (by omega) m2, _, sqL_of upd_same, _, atI_nat (k := i) (by omega) m1, rfl, ?_⟩
        by_cases heq : (srt rs)[i + 1] = (srt rs)[i]
        · have hr : rep rs = some (srt rs)[i] := adj_some _ i _ hj g1 (by rw [g2, heq])
          rw [hr] at h
          rw [if_pos (by rw [heq])]
          refine ⟨_, sqL_of upd_same, _, atI_nat (k := i + 1) (by omega) m2, ⟨_, rfl⟩, fun d hd => ?_⟩
          refine h _ d (ext_set x0 (fr_of x0 hd)) ?_
          rw [upd_same, heq]
          rfl
        · rw [if_neg (by simpa using heq)]
          refine ⟨⟨_, rfl⟩, fun j hj' => ?_⟩
          by_cases e : j = i
          · subst e
            rw [g1, g2]
            simpa using fun z => heq z.symm
          · exact hj j (by omega)
      · rw [if_neg hi] at e
        cases e
    · rintro σ H' ⟨rfl, ⟨v, rfl⟩, hj⟩
      rw [rngV_len] at hj
      have hr : rep rs = none := adj_none _ fun j hj' => hj j (by omega)
      rw [hr] at h
      exact ⟨_, rfl, h _ _ x0 upd_same⟩
theorem pure_Lot_init {K : PySem.W.Frag} (F : KF K) (vs : List V) (H : Hp) (Q : VK) (E : XK) (h : sp_Lot_init K vs H Q E) : t_Lot_init K E { nx := fun _ H' => Q .non H', rt := Q } (start ["self", "hours", "members", "residues", "member", "residue"] vs) H := by
  obtain ⟨a, dx, l, n, ms, rfl, ha, hl, n1, n2, hlen, hnd, h⟩ := h
  have hlr : (ms.map fun m => m % n).length = ms.length := List.length_map _
  unfold t_Lot_init
  refine ⟨_, rfl, _, rfl, a, dx, [], rfl, ha, rfl, n, 360, rfl, ?_⟩
  rw [if_pos ⟨n1, n2⟩]
  refine ⟨_, rfl, l, rfl, ⟨_, hl⟩, fun D hD => lcF (fI fun i => some (i % n)) hD (fun H' x => src_list (sqL_ext x hl)) (by rw [List.length_map, sizeLine_eq]; omega) ?_ ?_⟩
  · intro x hx H' e R N hR hN
    obtain ⟨i, hi, rfl⟩ := mem_mapI hx
    bv_omega
    refine ⟨by omega, ?_⟩
    rw [fmod_pos n1]
    exact hR _ rfl
  · rw [fm_fI, fm_some]
    have aD : a ≠ D := ne_of_none ha hD
    refine ⟨_, rfl, D, _, rfl, sqL_of upd_same, hnd, by omega, ?_⟩
    bv_omega
    refine ⟨_, .inl (sqL_of upd_same), ?_⟩
    simp only [List.length_map]
    rw [if_neg (by omega)]
    refine ⟨_, rfl, _, rfl, a, dx, [], rfl, by rw [upd_ne aD]; exact ha, by decide, ?_⟩
    have hg : upd (upd H D (.lst (List.map V.int (ms.map fun m => m % n)))) a (.ins (He.ga K "Lot") dx (putF "hours" (.int n) [])) D = some (.lst (List.map V.int (ms.map fun m => m % n))) := by
      rw [upd_ne (Ne.symm aD), upd_same]
    unfold sFldI
    refine ⟨_, rfl, D, rfl, ⟨_, sqL_of hg⟩, fun D2 hD2 => lcF (fI fun i => some i) hD2 (fun H' x => src_list (sqL_ext x (sqL_of hg))) (by rw [List.length_map, sizeLine_eq]; omega) ?_ ?_⟩
    · intro x hx H' e R N hR hN
      obtain ⟨i, hi, rfl⟩ := mem_mapI hx
      bv_omega
      exact hR _ rfl
    · rw [fm_fI, fm_some, List.map_id']
      refine ⟨D2, _, rfl, sqL_of upd_same, fun ns' p hp hle hn => ?_⟩
      have e := srt_unique hp hle
      subst e
      have hD2' := fr_of (ext_new hD2) hn
      have aD2 : a ≠ D2 := fun z => by rw [← z, upd_same] at hD2; cases hD2
      have ap : a ≠ p := fun z => by rw [← z, upd_same] at hD2'; cases hD2'
      refine ⟨_, rfl, a, dx, _, rfl, by rw [upd_ne ap, upd_ne aD2, upd_same], by show 1 < 1000; decide, ?_⟩
      refine h _ p (fun b o hb e => ?_) upd_same ?_
      · have bD : b ≠ D := ne_of_none e hD
        have e2 : upd (upd H D (.lst (List.map V.int (ms.map fun m => m % n)))) a (.ins (He.ga K "Lot") dx (putF "hours" (.int n) [])) b = some o := by rw [upd_ne hb, upd_ne bD]; exact e
        rw [upd_ne hb, upd_ne (ne_of_none e2 hD2'), upd_ne (ne_of_none e2 hD2)]
        exact e2
      · rw [upd_ne (Ne.symm ap), upd_same]
theorem lot_mulW {n m f : Int} (n2 : n ≤ 360) (hm : 0 ≤ m ∧ m < n) (hf : f.natAbs < 2 ^ 400) : CMulW m f := wide_mul (a := 10) (b := 400) (by omega) hf (by decide) (by decide) (by decide)
theorem pure_Lot_mul {K : PySem.W.Frag} (F : KF K) (vs : List V) (H : Hp) (Q : VK) (E : XK) (h : sp_Lot_mul K vs H Q E) : t_Lot_mul K E { nx := fun _ H' => Q .non H', rt := Q } (start ["self", "factor", "member"] vs) H := by
  obtain ⟨a, n, f, ms, rfl, ⟨ok, dx, lm, e1, m1⟩, hf, h⟩ := h
  refine ⟨_, rfl, a, dx, _, _, rfl, e1, lot_h n lm, _, rfl, a, dx, _, _, rfl, e1, lot_m n lm, lm, rfl, ⟨_, sqL_of m1⟩, fun D hD => lcF (fI fun i => some ((i * f) % n)) hD (fun H' x => src_list (sqL_ext x (sqL_of m1))) (by have := ok.len; rw [List.length_map, sizeLine_eq]; omega) ?_ ?_⟩
  · intro x hx H' e R N hR hN
    obtain ⟨i, hi, rfl⟩ := mem_mapI hx
    bv_omega
    refine ⟨lot_mulW ok.n2 (ok.rng i hi) hf, _, _, e _ _ e1, _, rfl, n, rfl, by have := ok.n1; omega, ?_⟩
    rw [fmod_pos ok.n1]
    exact hR _ rfl
  · rw [fm_fI, fm_some]
    exact once_mk (sqL_of upd_same) ok.n1 ok.n2 (by have := ok.len; rw [List.length_map]; omega) (fun r hr => by obtain ⟨k, _, rfl⟩ := List.mem_map.mp hr; exact emod_rng ok.n1 _) (h.ext (ext_new hD))
theorem pure_Lot_rmul {K : PySem.W.Frag} (F : KF K) (vs : List V) (H : Hp) (Q : VK) (E : XK) (h : sp_Lot_rmul K vs H Q E) : t_Lot_rmul K E { nx := fun _ H' => Q .non H', rt := Q } (start ["self", "factor"] vs) H := by
  obtain ⟨a, n, f, ms, rfl, L, hf, h⟩ := h
  obtain ⟨ok, dx, lm, e1, m1⟩ := id L
  exact ⟨_, rfl, _, rfl, a, dx, _, f, rfl, e1, rfl, a, n, f, ms, rfl, L, hf, h⟩
theorem pure_Lot_add {K : PySem.W.Frag} (F : KF K) (vs : List V) (H : Hp) (Q : VK) (E : XK) (h : sp_Lot_add K vs H Q E) : t_Lot_add K E { nx := fun _ H' => Q .non H', rt := Q } (start ["self", "other", "sums", "one", "two"] vs) H := by
  obtain ⟨a, b, n, n', ms, ms', rfl, L, L', h⟩ := h
  refine ⟨_, rfl, _, rfl, a, b, n, n', ms, ms', rfl, L, L', ?_⟩
  unfold addOut at h
  by_cases hn : n = n'
  · rw [if_pos hn] at h ⊢
    obtain ⟨ok, dx, lm, e1, m1⟩ := L
    obtain ⟨ok', dx', lm', e1', m1'⟩ := L'
    refine ⟨_, rfl, a, dx, _, _, rfl, e1, lot_m n lm, lm, rfl, ⟨_, sqL_of m1⟩, fun D hD => lc2F (b := 360) (by decide) (fun _ => ms'.map V.int) (fun x y => match x with | .int i => fI (fun j => some ((i + j) % n)) y | _ => none) hD (fun H' x => src_list (sqL_ext x (sqL_of m1))) (fun _ _ => by rw [List.length_map]; exact ok'.len) (by have := ok.len; rw [List.length_map, sizeLine_eq]; omega) ?_ ?_ ?_⟩
    · intro x hx H' e R hR
      bv_omega
      exact ⟨_, _, e _ _ e1', _, rfl, lm', rfl, ⟨_, sqL_of (e _ _ m1')⟩, hR _ fun H2 x2 => src_list (sqL_ext x2 (sqL_of m1'))⟩
    · intro x hx y hy H' e R N hR hN
      obtain ⟨i, hi, rfl⟩ := mem_mapI hx
      obtain ⟨j, hj, rfl⟩ := mem_mapI hy
      bv_omega
      refine ⟨_, _, e _ _ e1, _, rfl, n, rfl, by have := ok.n1; omega, ?_⟩
      rw [fmod_pos ok.n1]
      exact hR _ rfl
    · have el : ((ms.map V.int).flatMap fun x => (ms'.map V.int).filterMap fun y => match x with | .int i => fI (fun j => some ((i + j) % n)) y | _ => none) = (ms.flatMap fun a => ms'.map fun b => (a + b) % n).map V.int := by
        rw [List.flatMap_map, List.map_flatMap]
        refine congrArg (fun g => ms.flatMap g) (funext fun i => ?_)
        show (ms'.map V.int).filterMap (fI fun j => some ((i + j) % n)) = _
        rw [fm_fI, fm_some]
      rw [el]
      refine ⟨_, rfl, a, dx, _, _, rfl, ext_new hD _ _ e1, lot_h n lm, _, rfl, ?_⟩
      refine once_mk (sqL_of upd_same) ok.n1 ok.n2 ?_ (fun r hr => ?_) (h.ext (ext_new hD))
      · have := fl_len (F := fun a => ms'.map fun b => (a + b) % n) (xs := ms) (b := 360) fun x _ => by rw [List.length_map]; exact ok'.len
        have := ok.len
        omega
      · obtain ⟨i, _, hr⟩ := List.mem_flatMap.mp hr
        obtain ⟨k, _, rfl⟩ := List.mem_map.mp hr
        exact emod_rng ok.n1 _
  · rw [if_neg hn] at h ⊢
    exact h
theorem pure_Lot_mod {K : PySem.W.Frag} (F : KF K) (vs : List V) (H : Hp) (Q : VK) (E : XK) (h : sp_Lot_mod K vs H Q E) : t_Lot_mod K E { nx := fun _ H' => Q .non H', rt := Q } (start ["self", "number", "member"] vs) H := by
  obtain ⟨a, n, m, ms, rfl, ⟨ok, dx, lm, e1, m1⟩, h⟩ := h
  unfold modOut at h
  have bad : m < 1 ∨ n % m ≠ 0 → ok1 [V.int m] ∧ ∀ d : Addr, H d = none → E (Value.ref (He.ga K "NotADivisor")) (some d) (upd H d (HO.xd (fs1 "number" [V.int m]))) := fun hc => by
    rw [if_pos hc] at h
    exact ⟨⟨_, rfl⟩, fun d hd => h _ _ (ext_new hd) upd_same⟩
  unfold t_Lot_mod
  bv_omega
  by_cases h1 : m < 1
  · rw [if_pos h1]
    simpa using bad (.inl h1)
  · rw [if_neg h1]
    refine ⟨_, _, e1, _, rfl, n, rfl, by omega, rfl, ?_⟩
    rw [fmod_pos (by omega)]
    by_cases h2 : n % m = 0
    · rw [if_neg (by omega)] at h
      rw [if_neg (by simpa using h2)]
      have hmn : m ≤ n := Int.le_of_dvd (by have := ok.n1; omega) (Int.dvd_of_emod_eq_zero h2)
      refine ⟨_, rfl, a, dx, _, _, rfl, e1, lot_m n lm, lm, rfl, ⟨_, sqL_of m1⟩, fun D hD => lcF (fI fun i => some (i % m)) hD (fun H' x => src_list (sqL_ext x (sqL_of m1))) (by have := ok.len; rw [List.length_map, sizeLine_eq]; omega) ?_ ?_⟩
      · intro x hx H' e R N hR hN
        obtain ⟨i, hi, rfl⟩ := mem_mapI hx
        bv_omega
        refine ⟨by omega, ?_⟩
        rw [fmod_pos (by omega)]
        exact hR _ rfl
      · rw [fm_fI, fm_some]
        exact once_mk (sqL_of upd_same) (by omega) (by have := ok.n2; omega) (by have := ok.len; rw [List.length_map]; omega) (fun r hr => by obtain ⟨k, _, rfl⟩ := List.mem_map.mp hr; exact emod_rng (by omega) _) (h.ext (ext_new hD))
    · rw [if_pos (by simpa using h2)]
      exact bad (.inr h2)
theorem pure_Lot_pow {K : PySem.W.Frag} (F : KF K) (vs : List V) (H : Hp) (Q : VK) (E : XK) (h : sp_Lot_pow K vs H Q E) : t_Lot_pow K E { nx := fun _ H' => Q .non H', rt := Q } (start ["self", "times", "copies", "lap", "member"] vs) H := by
  obtain ⟨a, n, t, ms, rfl, ⟨ok, dx, lm, e1, m1⟩, t9, h⟩ := h
  unfold powOut at h
  have ok1' := ok.n1
  have ok2' := ok.n2
  by_cases ht : t < 1
  · rw [if_pos ht] at h
    unfold t_Lot_pow
    bv_omega
    rw [if_pos ht]
    exact ⟨⟨_, _, rfl, by decide⟩, fun d hd => h _ _ (ext_new hd) upd_same⟩
  · rw [if_neg ht] at h
    have wm : CMulW n t := wide_mul (a := 10) (b := 400) (by omega) (by omega) (by decide) (by decide) (by decide)
    unfold t_Lot_pow
    refine ⟨_, rfl, _, _, rfl, rfl, _, rfl, ?_⟩
    dsimp only
    rw [if_neg (by simpa using ht)]
    refine ⟨_, rfl, a, dx, _, _, rfl, e1, lot_h n lm, _, rfl, n, t, rfl, rfl, wm, _, rfl, a, dx, _, rfl, e1, rfl, n * t, 360, rfl, ?_⟩
    have p1 : 1 ≤ n * t := by
      have : 0 < n * t := Int.mul_pos (by omega) (by omega)
      omega
    by_cases hb : 360 < n * t
    · rw [if_pos hb] at h
      rw [if_neg (by omega)]
      exact h
    · rw [if_neg hb] at h
      rw [if_pos ⟨p1, by omega⟩]
      refine ⟨_, rfl, t, rfl, by omega, by omega, fun D hD => lc2F (b := 360) (by decide) (fun _ => ms.map V.int) (fun x y => match x with | .int i => fI (fun j => some (j + i * n)) y | _ => none) hD (fun H' x => src_rng) (fun _ _ => by rw [List.length_map]; exact ok.len) (by rw [rngV_len, sizeLine_eq]; omega) ?_ ?_ ?_⟩
      · intro x hx H' e R hR
        bv_omega
        exact ⟨_, _, e _ _ e1, _, rfl, lm, rfl, ⟨_, sqL_of (e _ _ m1)⟩, hR _ fun H2 x2 => src_list (sqL_ext x2 (sqL_of m1))⟩
      · intro x hx y hy H' e R N hR hN
        obtain ⟨i, hi, rfl⟩ := List.mem_map.mp hx
        obtain ⟨j, hj, rfl⟩ := mem_mapI hy
        have hi := List.mem_range.mp hi
        bv_omega
        refine ⟨_, _, e _ _ e1, _, rfl, n, rfl, wide_mul (a := 20) (b := 10) (by omega) (by omega) (by decide) (by decide) (by decide), ?_⟩
        exact hR _ rfl
      · have el : ((rngV 0 t.toNat).flatMap fun x => (ms.map V.int).filterMap fun y => match x with | .int i => fI (fun j => some (j + i * n)) y | _ => none) = (copies n ms t).map V.int := by
          unfold rngV copies
          rw [List.flatMap_map, List.map_flatMap]
          refine congrArg (fun g => (List.range t.toNat).flatMap g) (funext fun i => ?_)
          show (ms.map V.int).filterMap (fI fun j => some (j + (0 + (i : Int)) * n)) = _
          rw [fm_fI, fm_some, Int.zero_add]
        rw [el]
        have em : (copies n ms t).map (fun m => m % (n * t)) = copies n ms t := mod_id (copies_rng ok.rng ok1' (by omega))
        refine ⟨_, rfl, a, dx, _, _, rfl, ext_new hD _ _ e1, lot_h n lm, _, rfl, n, t, rfl, rfl, wm, _, rfl, ?_⟩
        refine made_lot (sqL_of upd_same) p1 (by omega) (by have := copies_len ok (t := t) (by omega) (by omega); omega) (by rw [em]; exact lt_nodup (copies_asc ok.rng ok1' ok.asc)) fun H3 a x1 L => h H3 a ((ext_new hD).trans x1) ?_
        rw [em, srt_of_le (lt_le (copies_asc ok.rng ok1' ok.asc))] at L
        exact L
theorem pure_l_draws {K : PySem.W.Frag} (F : KF K) (vs : List V) (H : Hp) (Q : VK) (E : XK) (h : sp_l_draws K vs H Q E) : t_l_draws K E { nx := fun _ H' => Q .non H', rt := Q } (start ["cell", "salt", "menu", "found", "rest", "mixed", "k"] vs) H := by
  obtain ⟨c, s, a, ms, rfl, c0, s0, s1, hS, hlen, hm, h⟩ := h
  refine ⟨Nat.zero_le _, fun p hp => ?_⟩
  refine ⟨_, rfl, _, _, rfl, rfl, ⟨by decide, by decide, by decide⟩, _, _, rfl, rfl, ?_⟩
  refine ⟨_, rfl, _, rfl, _, _, rfl, rfl, cmulW (by decide) (by omega), _, _, rfl, rfl, ?_⟩
  have x0 : Ext H (upd H p (.lst [])) := ext_new hp
  refine ⟨_, rfl, a, _, rfl, .inl (sqL_ext x0 hS), (ms.length : Nat), by rw [List.length_map] <;> rfl, by omega, by omega, forS (xs := rngV 0 (ms.length : Int).toNat) (fun i σ H' => i ≤ ms.length ∧ ∃ (rest mixed : Int) (v : Option V) (ws : List Int), σ = [some (.int c), some (.int s), some (.ref a), some (.ref p), some (.int rest), some (.int mixed), v] ∧ Ext H H' ∧ H' p = some (.lst (ws.map V.int)) ∧ ws.length = i ∧
      (∀ (k : Nat) (w m : Int), ws[k]? = some w → ms[k]? = some m → 0 ≤ w ∧ w < m) ∧ (rest < 0 → 0 ≤ mixed ∧ mixed < 2 ^ 100)) ?_ (fun _ _ _ _ _ => src_rng) ?_ ?_⟩
  · refine ⟨Nat.zero_le _, _, _, _, [], rfl, x0, upd_same, rfl, fun k w m h => by simp at h, fun hr => ?_⟩
    have : c < 10 ^ 18 := by have : c - 10 ^ (Int.toNat 18) < 0 := hr; have e : (10 : Int) ^ (Int.toNat 18) = 10 ^ 18 := rfl; omega
    constructor <;> omega
  · rintro i x σ H' e ⟨hi, rest, mixed, v, ws, rfl, x1, hp1, hw, hb, hr⟩
    rw [rngV_get] at e
    by_cases hi' : i < (ms.length : Int).toNat
    · rw [if_pos hi'] at e
      cases e
      have hi2 : i < ms.length := by omega
      have gm : ms[i]? = some ms[i] := List.getElem?_eq_getElem _
      have bm := hm _ (List.getElem_mem hi2)
      have at1 : atI (ms.map V.int) (0 + (i : Int)) = some (.int ms[i]) := atI_nat (k := i) (by omega) (map_get gm)
      have nw : ∀ (w : Int), 0 ≤ w → w < ms[i] → ∀ (k : Nat) (w' m : Int), (ws ++ [w])[k]? = some w' → ms[k]? = some m → 0 ≤ w' ∧ w' < m := fun w w0 w1 k w' m h1 h2 => by
        by_cases hk : k < ws.length
        · rw [List.getElem?_append_left hk] at h1
          exact hb k w' m h1 h2
        · rw [List.getElem?_append_right (by omega)] at h1
          have hk2 : k = i := by
            have := (List.getElem?_eq_some_iff.mp h1).1
            simp at this
            omega
          subst hk2
          rw [hw, Nat.sub_self] at h1
          cases h1
          rw [gm] at h2
          cases h2
          exact ⟨w0, w1⟩
      bv_omega
      by_cases hrest : 0 ≤ rest
      · rw [if_pos hrest]
        refine ⟨tyL hp1, _, sqL_ext x1 hS, _, at1, _, rfl, by omega, _, hp1, by rw [List.length_map, sizeLine_eq]; omega, _, sqL_ext (ext_set x1 hp) hS, _, at1, _, rfl, cdivW bm, hi2, ?_⟩
        rw [fmod_pos bm.1]
        refine ⟨_, _, _, ⟨rfl, rfl, rfl⟩, ext_set x1 hp, ws ++ [rest % ms[i]], by rw [upd_same, List.map_append]; rfl, by rw [List.length_append, hw]; rfl, nw _ (emod_rng bm.1 _).1 (emod_rng bm.1 _).2, fun h => ?_⟩
        have := Int.ediv_nonneg hrest (show 0 ≤ ms[i] by omega)
        omega
      · rw [if_neg hrest]
        have hx := hr (by omega)
        have h2 : ∀ z : Int, z.fmod 2147483399 = z % 2147483399 := fun z => fmod_pos (by decide) z
        have h3 : ∀ z : Int, z.fmod 2147483629 = z % 2147483629 := fun z => fmod_pos (by decide) z
        refine ⟨cmulW (by omega) (by omega), cmulW (by decide) (by omega), by decide, ?_⟩
        rw [h2]
        have b2 := emod_rng (n := 2147483399) (by decide) (mixed * mixed + 3571 * (0 + (i : Int) + 1) + 40692)
        refine ⟨cmulW (by omega) (by omega), ⟨by decide, by decide⟩, by decide, ?_⟩
        rw [h3]
        refine ⟨tyL hp1, ⟨by decide, by decide⟩, _, sqL_ext x1 hS, _, at1, _, rfl, by omega, _, hp1, by rw [List.length_map, sizeLine_eq]; omega, hi2, ?_⟩
        rw [fmod_pos bm.1]
        generalize hz : ((mixed * mixed + 3571 * (0 + (i : Int) + 1) + 40692) % 2147483399 * ((mixed * mixed + 3571 * (0 + (i : Int) + 1) + 40692) % 2147483399) + (mixed * mixed + 3571 * (0 + (i : Int) + 1) + 40692) % 2147483399 / 97) % 2147483629 = z
        have b3 : 0 ≤ z ∧ z < 2147483629 := by rw [← hz]; exact emod_rng (by decide) _
        refine ⟨_, _, _, ⟨rfl, rfl, rfl⟩, ext_set x1 hp, ws ++ [(z / 8) % ms[i]], by rw [upd_same, List.map_append]; rfl, by rw [List.length_append, hw]; rfl, nw _ (emod_rng bm.1 _).1 (emod_rng bm.1 _).2, fun _ => ⟨b3.1, by omega⟩⟩
    · rw [if_neg hi'] at e
      cases e
  · rintro σ H' ⟨hi, rest, mixed, v, ws, rfl, x1, hp1, hw, hb, hr⟩
    rw [rngV_len] at hw
    exact ⟨_, rfl, h H' p ws x1 hp hp1 (by omega) hb⟩
theorem pure_l_bits {K : PySem.W.Frag} (F : KF K) (vs : List V) (H : Hp) (Q : VK) (E : XK) (h : sp_l_bits K vs H Q E) : t_l_bits K E { nx := fun _ H' => Q .non H', rt := Q } (start ["n", "number", "found", "h"] vs) H := by
  obtain ⟨n, b, rfl, n0, n1, h⟩ := h
  refine ⟨Nat.zero_le _, fun p hp => ?_⟩
  refine ⟨_, rfl, n, rfl, by omega, by omega, forS (xs := rngV 0 n.toNat) (fun i σ H' => ∃ (b : Int) (v : Option V) (ms : List Int), σ = [some (.int n), some (.int b), some (.ref p), v] ∧ Ext H H' ∧ H' p = some (.lst (ms.map V.int)) ∧ Rising i ms) ⟨_, _, [], rfl, ext_new hp, upd_same, .nil, fun m hm => by cases hm⟩ (fun _ _ _ _ _ => src_rng) ?_ ?_⟩
  · rintro i x σ H' e ⟨b, v, ms, rfl, x1, hp1, hr⟩
    rw [rngV_get] at e
    by_cases hi : i < n.toNat
    · rw [if_pos hi] at e
      cases e
      have hlen := rising_len hr
      bv_omega
      refine ⟨by decide, rfl, ?_⟩
      by_cases h1 : b.fmod 2 = 1
      · rw [if_pos h1]
        refine ⟨tyL hp1, _, hp1, by rw [List.length_map, sizeLine_eq]; omega, cdivW (by decide), _, _, ⟨rfl, rfl⟩, ext_set x1 hp, ms ++ [(i : Int)], by rw [upd_same, List.map_append, Int.zero_add]; rfl, ?_⟩
        exact rising_push hr (by omega) (by omega)
      · rw [if_neg h1]
        exact ⟨cdivW (by decide), _, _, ⟨rfl, rfl⟩, x1, ms, hp1, rising_mono hr (by omega)⟩
    · rw [if_neg hi] at e
      cases e
  · rintro σ H' ⟨b, v, ms, rfl, x1, hp1, hr⟩
    rw [rngV_len] at hr
    exact ⟨_, rfl, h H' p ms x1 hp hp1 (rising_mono hr (by omega))⟩
theorem pure_l_subset {K : PySem.W.Frag} (F : KF K) (vs : List V) (H : Hp) (Q : VK) (E : XK) (h : sp_l_subset K vs H Q E) : t_l_subset K E { nx := fun _ H' => Q .non H', rt := Q } (start ["cell", "salt", "n", "found", "pieces", "k", "h"] vs) H := by
  obtain ⟨c, s, n, rfl, c0, s0, s1, n0, n1, h⟩ := h
  refine ⟨Nat.zero_le _, fun p hp => ?_⟩
  refine ⟨_, rfl, _, rfl, _, _, rfl, rfl, ⟨by decide, by decide, by decide⟩, by decide, fun q hq => ?_⟩
  refine ⟨_, rfl, _, _, rfl, rfl, _, _, rfl, rfl, cdivW (by decide), _, _, rfl, rfl, q, _, _, rfl, rfl, upd_same, by omega, by omega, by show 1 * _ ≤ sizeLine; rw [sizeLine_eq]; omega, fun q2 hq2 => ?_⟩
  have q0 : H q = none := fr_of (ext_new hp) hq
  have x1 : Ext H (upd (upd H p (.lst [])) q (.lst [.int (2 ^ (Int.toNat 25))])) := ext_set (ext_new hp) q0
  have q20 : H q2 = none := fr_of x1 hq2
  have pq : p ≠ q := fun z => by rw [← z, upd_same] at hq; cases hq
  have pq2 : p ≠ q2 := fun z => by rw [← z, upd_ne pq, upd_same] at hq2; cases hq2
  refine ⟨c, s, q2, List.replicate (1 + (n - 1) / 25).toNat (2 ^ 25), rfl, c0, s0, s1, sqL_of (by rw [upd_same, ← rep_ints]; rfl), by rw [List.length_replicate]; omega, fun m hm => by rw [List.eq_of_mem_replicate hm]; decide, fun H1 r ws x2 _ hr hl hb => ?_⟩
  rw [List.length_replicate] at hl
  have x0 : Ext H H1 := (ext_set x1 q20).trans x2
  have hp1 : H1 p = some (.lst []) := x2 _ _ (by rw [upd_ne pq2, upd_ne pq, upd_same])
  refine ⟨_, rfl, r, _, rfl, .inl (sqL_of hr), (ws.length : Nat), by rw [List.length_map] <;> rfl, by omega, by omega, forS (xs := rngV 0 (ws.length : Int).toNat) (fun i σ H' => i ≤ ws.length ∧ ∃ (f : Addr) (v : Option V) (ms : List Int), σ = [some (.int c), some (.int s), some (.int n), some (.ref f), some (.ref r), v, none] ∧ Ext H1 H' ∧ H f = none ∧ H' f = some (.lst (ms.map V.int)) ∧ Rising n ms ∧ Rising (25 * i) ms)
    ⟨Nat.zero_le _, p, _, [], rfl, Ext.refl _, hp, hp1, ⟨.nil, fun m hm => by cases hm⟩, ⟨.nil, fun m hm => by cases hm⟩⟩ (fun _ _ _ _ _ => src_rng) ?_ ?_⟩
  · rintro i x σ H' e ⟨hi, f, v, ms, rfl, x3, hf, hf1, hr1, hr2⟩
    rw [rngV_get] at e
    by_cases hi2 : i < (ws.length : Int).toNat
    · rw [if_pos hi2] at e
      cases e
      have gw : ws[i]? = some (ws[i]'(by omega)) := List.getElem?_eq_getElem _
      refine ⟨_, rfl, _, rfl, _, rfl, r, _, _, _, rfl, rfl, sqL_of (x3 _ _ hr), atI_nat (k := i) (by omega) (map_get gw), 25, _, rfl, by decide, by decide, fun H2 g bs x4 _ hg hbs => ?_⟩
      refine ⟨g, rfl, ⟨_, sqL_of hg⟩, fun D hD => lcF (fI fun j => if 25 * (i : Int) + j < n then some (25 * (i : Int) + j) else none) hD (fun H3 x5 => src_list (sqL_ext x5 (sqL_of hg))) (by have := rising_len hbs; rw [List.length_map, sizeLine_eq]; omega) ?_ ?_⟩
      · intro x hx H3 e R N hR hN
        obtain ⟨j, hj, rfl⟩ := mem_mapI hx
        have := hbs.2 j hj
        bv_omega
        refine ⟨cmulW (by decide) (by omega), ?_⟩
        rw [Int.zero_add]
        by_cases hc : 25 * (i : Int) + j < n
        · rw [if_pos hc]
          exact ⟨cmulW (by decide) (by omega), hR _ (by show Option.map V.int (if _ then _ else _) = _; rw [if_pos hc]; rfl)⟩
        · rw [if_neg hc]
          exact hN (by show Option.map V.int (if _ then _ else _) = _; rw [if_neg hc]; rfl)
      · rw [fm_fI]
        have fD : f ≠ D := ne_of_none (x4 _ _ hf1) hD
        have hbl := rising_len hbs
        have hml := rising_len hr1
        have hfl := fm_len (fun j => if 25 * (i : Int) + j < n then some (25 * (i : Int) + j) else none) bs
        have mem : ∀ y ∈ bs.filterMap (fun j => if 25 * (i : Int) + j < n then some (25 * (i : Int) + j) else none), ∃ j ∈ bs, y = 25 * (i : Int) + j ∧ 25 * (i : Int) + j < n := fun y hy => by
          obtain ⟨j, hj, e⟩ := List.mem_filterMap.mp hy
          by_cases hc : 25 * (i : Int) + j < n
          · rw [if_pos hc] at e
            cases e
            exact ⟨j, hj, rfl, hc⟩
          · rw [if_neg hc] at e
            cases e
        have asc : (bs.filterMap fun j => if 25 * (i : Int) + j < n then some (25 * (i : Int) + j) else none).Pairwise (· < ·) := by
          refine List.pairwise_filterMap.mpr (hbs.1.imp fun {a b} hab x hx y hy => ?_)
          by_cases ha : 25 * (i : Int) + a < n
          · by_cases hb : 25 * (i : Int) + b < n
            · rw [if_pos ha] at hx
              rw [if_pos hb] at hy
              cases hx
              cases hy
              omega
            · rw [if_neg hb] at hy
              cases hy
          · rw [if_neg ha] at hx
            cases hx
        have pw : (ms ++ bs.filterMap fun j => if 25 * (i : Int) + j < n then some (25 * (i : Int) + j) else none).Pairwise (· < ·) :=
          List.pairwise_append.mpr ⟨hr1.1, asc, fun x hx y hy => by obtain ⟨j, hj, e, _⟩ := mem y hy; have := hr2.2 x hx; have := hbs.2 j hj; omega⟩
        refine ⟨f, D, _, _, rfl, rfl, by rw [upd_ne fD]; exact x4 _ _ hf1, upd_same, by rw [List.length_map, List.length_map, sizeLine_eq]; omega, fun f2 hf2 => ⟨by omega, f2, _, ms ++ bs.filterMap fun j => if 25 * (i : Int) + j < n then some (25 * (i : Int) + j) else none, rfl, ?_, ?_, ?_, ?_, ?_⟩⟩
        · have hD1 : H1 D = none := fr_of (x3.trans x4) hD
          exact ext_set (ext_set (x3.trans x4) hD1) (fr_of (ext_set (x3.trans x4) hD1) hf2)
        · exact fr_of (x0.trans (ext_set (x3.trans x4) (fr_of (x3.trans x4) hD))) hf2
        · rw [upd_same, List.map_append]
        · exact ⟨pw, fun x hx => by
            rcases List.mem_append.mp hx with hx | hx
            · exact hr1.2 x hx
            · obtain ⟨j, hj, e, _⟩ := mem x hx
              have := hbs.2 j hj
              omega⟩
        · exact ⟨pw, fun x hx => by
            rcases List.mem_append.mp hx with hx | hx
            · have := hr2.2 x hx
              omega
            · obtain ⟨j, hj, e, _⟩ := mem x hx
              have := hbs.2 j hj
              omega⟩
    · rw [if_neg hi2] at e
      cases e
  · rintro σ H' ⟨hi, f, v, ms, rfl, x3, hf, hf1, hr1, hr2⟩
    exact ⟨_, rfl, h H' f ms (x0.trans x3) hf hf1 hr1⟩
theorem isi_b {K : PySem.W.Frag} {H : Hp} {Q : VK} {x : V} {T' T : String} {b : Bool} (t : TyX K H x (.type T')) (k : PySem.W.kitOne K (.type T') (.type T) = some b) (q : Q (.bl b) H) : rIsi K [x, .ty T] H Q := ⟨_, _, _, _, b, rfl, .ty _, t, k, q⟩
theorem dnAll_len {H : Hp} {d : Nat} : ∀ {vs : List V} {ps : List PyData}, DnAll H d vs ps → vs.length = ps.length
  | _, _, .nil _ => rfl
  | _, _, .cons h r => by rw [List.length_cons, List.length_cons, dnAll_len r]
theorem dnAll_get {H : Hp} {d : Nat} : ∀ {vs : List V} {ps : List PyData} {k : Nat} {v : V}, DnAll H d vs ps → vs[k]? = some v → ∃ p, ps[k]? = some p ∧ Dn H d v p
  | _, _, 0, _, .cons h r, e => by cases e; exact ⟨_, rfl, h⟩
  | _, _, k + 1, _, .cons h r, e => dnAll_get (k := k) r e
theorem pure_l_same {K : PySem.W.Frag} (d : Nat) (sr : Sp) (hr : ∀ d' vs H Q E, d = d' + 1 → sp_l_same d' K vs H Q E → sr vs H Q E) (vs : List V) (H : Hp) (Q : VK) (E : XK) (h : sp_l_same d K vs H Q E) : t_l_same K sr E { nx := fun _ H' => Q .non H', rt := Q } (start ["got", "due", "k"] vs) H := by
  obtain ⟨x, y, p, rfl, hx, hy, h⟩ := h
  unfold t_l_same
  have loop : ∀ (d' : Nat) (a b : Addr) (xs ys : List V) (ds : List PyData), d = d' + 1 → DnAll H d' xs ds → DnAll H d' ys ds → xs.length ≤ 200000 → x = .ref a → y = .ref b → (SqL K H b ys ∨ SqT K H b ys) → (∀ (k : Nat) (i : Int), i = k → k < ds.length → ∀ R : VK, (∀ v, xs[k]? = some v → R v H) → tOp (rIxL K) (tVar 0) (tVar 2) [some x, some y, some (.int i)] H R ∨ tOp (rIxT K) (tVar 0) (tVar 2) [some x, some y, some (.int i)] H R) →
      (∀ (k : Nat) (i : Int), i = k → k < ds.length → ∀ R : VK, (∀ v, ys[k]? = some v → R v H) → tOp (rIxL K) (tVar 1) (tVar 2) [some x, some y, some (.int i)] H R ∨ tOp (rIxT K) (tVar 1) (tVar 2) [some x, some y, some (.int i)] H R) →
      tSeq (tFor (iRng1 (tCons (tCB (rLenQ K) (tCons (tVar 1) tNil)) tNil)) (gName 2) (tIfS (tNot (tB (tC1 sr (wE E) (tCons (fun σ H Q => (tOp (rIxL K) (tVar 0) (tVar 2)) σ H Q ∨ (tOp (rIxT K) (tVar 0) (tVar 2)) σ H Q) (tCons (fun σ H Q => (tOp (rIxL K) (tVar 1) (tVar 2)) σ H Q ∨ (tOp (rIxT K) (tVar 1) (tVar 2)) σ H Q) tNil))))) (tRet (tC (.bl false))) tNext))
        (tRet (tC (.bl true))) { nx := fun _ H' => Q .non H', rt := Q } [some x, some y, none] H := by
    rintro d' a b xs ys ds rfl ax ay hl rfl rfl hb gx gy
    have l1 := dnAll_len ax
    have l2 := dnAll_len ay
    refine ⟨_, rfl, b, ys, rfl, hb, (ys.length : Nat), rfl, by omega, by omega, forS (xs := rngV 0 (ys.length : Int).toNat) (fun i σ H' => H' = H ∧ ∃ v, σ = [some (.ref a), some (.ref b), v]) ⟨rfl, _, rfl⟩ (fun _ _ _ _ _ => src_rng) ?_ ?_⟩
    · rintro i x σ H' e ⟨rfl, v, rfl⟩
      rw [rngV_get] at e
      by_cases hi : i < (ys.length : Int).toNat
      · rw [if_pos hi] at e
        cases e
        refine gx i _ (by omega) (by omega) _ fun v1 e1 => gy i _ (by omega) (by omega) _ fun v2 e2 => ?_
        obtain ⟨p1, q1, n1⟩ := dnAll_get ax e1
        obtain ⟨p2, q2, n2⟩ := dnAll_get ay e2
        rw [q1] at q2
        cases q2
        refine hr d' _ _ _ _ rfl ⟨v1, v2, p1, rfl, n1, n2, true, rfl, ?_⟩
        exact ⟨rfl, _, rfl⟩
      · rw [if_neg hi] at e
        cases e
    · rintro σ H' ⟨rfl, v, rfl⟩
      exact h
  have hsx : L2.start ["got", "due", "k"] [x, y] = [some x, some y, none] := rfl
  rw [hsx]
  have ld : ∀ z : Bool, ∀ a : Addr, decide (V.ref a = V.bl z) = false := fun _ _ => rfl
  cases hy with
  | non _ =>
    cases hx
    exact seqT (no_b rfl rfl) ⟨_, rfl, rfl, h⟩
  | bl _ b =>
    cases hx
    refine seqF (no_b rfl rfl) ?_
    cases b with
    | true => exact seqT (isl_b rfl rfl) ⟨_, rfl, true, rfl, h⟩
    | false => exact seqF (isl_b rfl rfl) (seqT (isl_b rfl rfl) ⟨_, rfl, false, rfl, h⟩)
  | int _ i =>
    cases hx
    refine seqF (no_b rfl rfl) (seqF (isl_b rfl rfl) (seqF (isl_b rfl rfl) (seqT (isi_t rfl (.base (.int i)) rfl) ?_)))
    refine ⟨_, rfl, i, rfl, true, rfl, _, rfl, _, rfl, rfl, ?_⟩
    rw [show decide (V.int i = V.int i) = true from decide_eq_true rfl]
    exact h
  | str _ z =>
    cases hx
    refine seqF (no_b rfl rfl) (seqF (isl_b rfl rfl) (seqF (isl_b rfl rfl) (seqF (isi_t rfl (.base (.str z)) rfl) (seqT (isi_t rfl (.base (.str z)) rfl) ?_))))
    refine isi_v rfl (.base (.str z)) rfl _ ⟨true, rfl, _, rfl, _, rfl, rfl, ?_⟩
    rw [show decide (V.str z = V.str z) = true from decide_eq_true rfl]
    exact h
  | @lst d' b ys ds eb lb rb =>
    cases hx with
    | @lst _ a xs _ ea la ra =>
      have l1 := dnAll_len ra
      have l2 := dnAll_len rb
      refine seqF (no_b rfl rfl) (seqF (isl_b rfl rfl) (seqF (isl_b rfl rfl) (seqF (isi_t rfl (.base (.lst eb)) rfl) (seqF (isi_t rfl (.base (.lst eb)) rfl) (seqE (isi_t rfl (.base (.lst eb)) rfl) (ifF (or_F (not_b (isi_t rfl (.base (.lst ea)) rfl) rfl) (ne_b (len_v rfl (.inl (sqL_of ea))) (len_v rfl (.inl (sqL_of eb))) rfl (by rw [l1, l2]; simp))) ?_))))))
      exact loop d' a b xs ys ds rfl ra rb la rfl rfl (.inl (sqL_of eb)) (fun k i e hk R hR => .inl ⟨_, rfl, _, rfl, a, xs, i, _, rfl, rfl, sqL_of ea, atI_nat e (List.getElem?_eq_getElem (by omega)), hR _ (List.getElem?_eq_getElem (by omega))⟩)
        (fun k i e hk R hR => .inl ⟨_, rfl, _, rfl, b, ys, i, _, rfl, rfl, sqL_of eb, atI_nat e (List.getElem?_eq_getElem (by omega)), hR _ (List.getElem?_eq_getElem (by omega))⟩)
  | @tup d' b ys ds eb lb rb =>
    cases hx with
    | @tup _ a xs _ ea la ra =>
      have l1 := dnAll_len ra
      have l2 := dnAll_len rb
      refine seqF (no_b rfl rfl) (seqF (isl_b rfl rfl) (seqF (isl_b rfl rfl) (seqF (isi_t rfl (.base (.tup eb)) rfl) (seqF (isi_t rfl (.base (.tup eb)) rfl) (seqT (isi_t rfl (.base (.tup eb)) rfl) (ifF (or_F (not_b (isi_t rfl (.base (.tup ea)) rfl) rfl) (ne_b (len_v rfl (.inr (sqT_of ea))) (len_v rfl (.inr (sqT_of eb))) rfl (by rw [l1, l2]; simp))) ?_))))))
      exact loop d' a b xs ys ds rfl ra rb la rfl rfl (.inr (sqT_of eb)) (fun k i e hk R hR => .inr ⟨_, rfl, _, rfl, a, xs, i, _, rfl, rfl, sqT_of ea, atI_nat e (List.getElem?_eq_getElem (by omega)), hR _ (List.getElem?_eq_getElem (by omega))⟩)
        (fun k i e hk R hR => .inr ⟨_, rfl, _, rfl, b, ys, i, _, rfl, rfl, sqT_of eb, atI_nat e (List.getElem?_eq_getElem (by omega)), hR _ (List.getElem?_eq_getElem (by omega))⟩)
theorem pure_l_same_0 {K : PySem.W.Frag} (F : KF K) (vs : List V) (H : Hp) (Q : VK) (E : XK) (h : sp_l_same 0 K vs H Q E) : t_l_same K (fun _ _ _ _ => False) E { nx := fun _ H' => Q .non H', rt := Q } (start ["got", "due", "k"] vs) H :=
  pure_l_same 0 _ (fun _ _ _ _ _ e => by cases e) vs H Q E h
theorem pure_l_same_1 {K : PySem.W.Frag} (F : KF K) (vs : List V) (H : Hp) (Q : VK) (E : XK) (h : sp_l_same 1 K vs H Q E) : t_l_same K (sp_l_same 0 K) E { nx := fun _ H' => Q .non H', rt := Q } (start ["got", "due", "k"] vs) H :=
  pure_l_same 1 _ (fun d' vs H Q E e h => by cases e; exact h) vs H Q E h
theorem pure_Lot_lshift {K : PySem.W.Frag} (F : KF K) (vs : List V) (H : Hp) (Q : VK) (E : XK) (h : sp_Lot_lshift K vs H Q E) : t_Lot_lshift K E { nx := fun _ H' => Q .non H', rt := Q } (start ["self", "by", "member"] vs) H := by
  obtain ⟨a, n, k, ms, rfl, ⟨ok, dx, lm, e1, m1⟩, h⟩ := h
  have hl := ok.len
  refine ⟨_, rfl, a, dx, _, _, rfl, e1, lot_h n lm, _, rfl, a, dx, _, _, rfl, e1, lot_m n lm, lm, rfl, ⟨_, sqL_of m1⟩, fun D hD => lcF (fI fun i => some (i + k)) hD (fun H' x => src_list (sqL_of (x _ _ m1))) (by rw [List.length_map, sizeLine_eq]; omega) ?_ ?_⟩
  · intro x hx H' e R N hR hN
    obtain ⟨i, hi, rfl⟩ := mem_mapI hx
    bv_omega
    exact hR _ rfl
  · rw [fm_fI, fm_some]
    have e : (ms.map fun i => i + k).map (fun m => m % n) = ms.map fun m => (m + k) % n := by rw [List.map_map]; rfl
    refine fun x dx hx hdx hne => made_lot (H1 := upd H D (.lst ((ms.map fun i => i + k).map V.int))) (l := D) (ms := ms.map fun i => i + k) (sqL_of upd_same) ok.n1 ok.n2 (by rw [List.length_map]; omega) (by rw [e]; exact move_nodup ok) (fun H2 b x1 L => h H2 b ((ext_new hD).trans x1) (by rw [e] at L; exact L)) x dx hx hdx hne
theorem pure_Lot_rshift {K : PySem.W.Frag} (F : KF K) (vs : List V) (H : Hp) (Q : VK) (E : XK) (h : sp_Lot_rshift K vs H Q E) : t_Lot_rshift K E { nx := fun _ H' => Q .non H', rt := Q } (start ["self", "by", "member"] vs) H := by
  obtain ⟨a, n, k, ms, rfl, ⟨ok, dx, lm, e1, m1⟩, h⟩ := h
  have hl := ok.len
  refine ⟨_, rfl, a, dx, _, _, rfl, e1, lot_h n lm, _, rfl, a, dx, _, _, rfl, e1, lot_m n lm, lm, rfl, ⟨_, sqL_of m1⟩, fun D hD => lcF (fI fun i => some (i - k)) hD (fun H' x => src_list (sqL_of (x _ _ m1))) (by rw [List.length_map, sizeLine_eq]; omega) ?_ ?_⟩
  · intro x hx H' e R N hR hN
    obtain ⟨i, hi, rfl⟩ := mem_mapI hx
    bv_omega
    exact hR _ rfl
  · rw [fm_fI, fm_some]
    have e : (ms.map fun i => i - k).map (fun m => m % n) = ms.map fun m => (m - k) % n := by rw [List.map_map]; rfl
    refine fun x dx hx hdx hne => made_lot (H1 := upd H D (.lst ((ms.map fun i => i - k).map V.int))) (l := D) (ms := ms.map fun i => i - k) (sqL_of upd_same) ok.n1 ok.n2 (by rw [List.length_map]; omega) (by rw [e]; exact move_nodup (k := -k) ok) (fun H2 b x1 L => h H2 b ((ext_new hD).trans x1) (by rw [e] at L; exact L)) x dx hx hdx hne
theorem pure_Lot_neg {K : PySem.W.Frag} (F : KF K) (vs : List V) (H : Hp) (Q : VK) (E : XK) (h : sp_Lot_neg K vs H Q E) : t_Lot_neg K E { nx := fun _ H' => Q .non H', rt := Q } (start ["self", "member"] vs) H := by
  obtain ⟨a, n, ms, rfl, ⟨ok, dx, lm, e1, m1⟩, h⟩ := h
  have hl := ok.len
  refine ⟨_, rfl, a, dx, _, _, rfl, e1, lot_h n lm, _, rfl, a, dx, _, _, rfl, e1, lot_m n lm, lm, rfl, ⟨_, sqL_of m1⟩, fun D hD => lcF (fI fun i => some (-i)) hD (fun H' x => src_list (sqL_of (x _ _ m1))) (by rw [List.length_map, sizeLine_eq]; omega) ?_ ?_⟩
  · intro x hx H' e R N hR hN
    obtain ⟨i, hi, rfl⟩ := mem_mapI hx
    bv_omega
    exact hR _ rfl
  · rw [fm_fI, fm_some]
    have e : (ms.map fun i => -i).map (fun m => m % n) = ms.map fun m => (-m) % n := by rw [List.map_map]; rfl
    refine fun x dx hx hdx hne => made_lot (H1 := upd H D (.lst ((ms.map fun i => -i).map V.int))) (l := D) (ms := ms.map fun i => -i) (sqL_of upd_same) ok.n1 ok.n2 (by rw [List.length_map]; omega) (by rw [e]; exact neg_nodup ok) (fun H2 b x1 L => h H2 b ((ext_new hD).trans x1) (by rw [e] at L; exact L)) x dx hx hdx hne
theorem pure_Lot_invert {K : PySem.W.Frag} (F : KF K) (vs : List V) (H : Hp) (Q : VK) (E : XK) (h : sp_Lot_invert K vs H Q E) : t_Lot_invert K E { nx := fun _ H' => Q .non H', rt := Q } (start ["self", "hour"] vs) H := by
  obtain ⟨a, n, ms, rfl, ⟨ok, dx, lm, e1, m1⟩, h⟩ := h
  have hl := ok.len
  have k1 := ok.n1
  have k2 := ok.n2
  refine ⟨_, rfl, a, dx, _, _, rfl, e1, lot_h n lm, _, rfl, a, dx, _, _, rfl, e1, lot_h n lm, n, rfl, by omega, by omega, fun D hD => lcF (xs := rngV 0 n.toNat) (fI fun i => if i ∈ ms then none else some i) hD (fun _ _ => src_rng) (by rw [rngV_len, sizeLine_eq]; omega) ?_ ?_⟩
  · intro x hx H' e R N hR hN
    rw [rng_ring] at hx
    obtain ⟨i, hi, rfl⟩ := mem_mapI hx
    refine ⟨_, rfl, _, rfl, a, dx, _, _, rfl, e _ _ e1, lot_m n lm, lm, _, rfl, .inl (sqL_of (e _ _ m1)), rfl, flat_ints ms, _, rfl, ?_⟩
    rw [inV_ints]
    by_cases hc : i ∈ ms
    · rw [show (if true = true then !decide (i ∈ ms) else decide (i ∈ ms)) = false from by simp [hc]]
      exact iteF (hN (by show Option.map V.int (if _ then _ else _) = _; rw [if_pos hc]; rfl))
    · rw [show (if true = true then !decide (i ∈ ms) else decide (i ∈ ms)) = true from by simp [hc]]
      exact iteT ⟨_, rfl, hR _ (by show Option.map V.int (if _ then _ else _) = _; rw [if_neg hc]; rfl)⟩
  · rw [rng_ring, fm_fI]
    have e : ((ring n).filterMap fun i => if i ∈ ms then none else some i) = invL n ms := fm_notin ms (ring n)
    rw [e]
    have ok' := inv_ok ok
    have em : (invL n ms).map (fun m => m % n) = invL n ms := mod_id ok'.rng
    refine fun x dx hx hdx hne => made_lot (H1 := upd H D (.lst ((invL n ms).map V.int))) (l := D) (ms := invL n ms) (sqL_of upd_same) k1 k2 (by have := ok'.len; omega) (by rw [em]; exact lt_nodup ok'.asc) (fun H2 b x1 L => h H2 b ((ext_new hD).trans x1) (by rw [em, srt_of_le (lt_le ok'.asc)] at L; exact L)) x dx hx hdx hne
theorem pure_differences {K : PySem.W.Frag} (F : KF K) (vs : List V) (H : Hp) (Q : VK) (E : XK) (h : sp_differences K vs H Q E) : t_differences K E { nx := fun _ H' => Q .non H', rt := Q } (start ["lot"] vs) H := by
  obtain ⟨a, n, ms, rfl, L, h⟩ := h
  exact ⟨_, rfl, _, rfl, a, a, n, ms, ms, rfl, L, L, h⟩
theorem pure_meetings {K : PySem.W.Frag} (F : KF K) (vs : List V) (H : Hp) (Q : VK) (E : XK) (h : sp_meetings K vs H Q E) : t_meetings K E { nx := fun _ H' => Q .non H', rt := Q } (start ["one", "other", "counts", "first", "second", "apart", "_"] vs) H := by
  obtain ⟨a, b, n, ms, ms', rfl, L, L', h⟩ := h
  obtain ⟨ok, dx, lm, e1, m1⟩ := id L
  obtain ⟨ok', dx', lm', e1', m1'⟩ := id L'
  have k1 := ok.n1
  have k2 := ok.n2
  refine ⟨_, rfl, _, rfl, a, b, n, n, ms, ms', rfl, L, L', ?_⟩
  rw [if_pos rfl]
  refine ⟨_, rfl, a, dx, _, _, rfl, e1, lot_h n lm, n, rfl, by omega, by omega, fun c hc => lcF (xs := rngV 0 n.toNat) (fI fun _ => some 0) hc (fun _ _ => src_rng) (by rw [rngV_len, sizeLine_eq]; omega) ?_ ?_⟩
  · intro x hx H' e R N hR hN
    rw [rng_ring] at hx
    obtain ⟨i, hi, rfl⟩ := mem_mapI hx
    exact hR _ rfl
  · rw [rng_ring, fm_fI, fm_some]
    have er : (ring n).map (fun _ => (0 : Int)) = List.replicate n.toNat 0 := by rw [List.map_const', ring_len]
    rw [er]
    have x0 : Ext H (upd H c (.lst ((List.replicate n.toNat 0).map V.int))) := ext_new hc
    have step : ∀ (z1 z2 : List Int) (x y : Int) (v5 : Option V) (H' : Hp) (cs : List Int), 0 ≤ x ∧ x < n → Ext H H' → H' c = some (.lst (cs.map V.int)) → CntRep n z1 cs → ∀ D : Ends, (∀ cs' H2, Ext H H2 → H2 c = some (.lst (cs'.map V.int)) → CntRep n (z1 ++ [(x - y) % n]) cs' → D.nx [some (.ref a), some (.ref b), some (.ref c), some (.int x), some (.int y), some (.int ((x - y) % n)), none] H2) →
        tSeq (tAsg (tOp rModN (tOp rSubI (tVar 3) (tVar 4)) (tFldI (He.ga K "Lot") "hours" (tVar 0))) (gName 5)) (tAsg (tOp rAddI (tOp (rIxL K) (tVar 2) (tVar 5)) (tC (.int 1))) (gSub (tVar 2) (tVar 5) rSetL)) D [some (.ref a), some (.ref b), some (.ref c), some (.int x), some (.int y), v5, none] H' := by
      intro z1 z2 x y v5 H' cs hx x1 hc1 hr D hD
      have bw := emod_rng k1 (x - y)
      have gk := hr.at_ ((x - y) % n).toNat (by omega)
      have lt : ((x - y) % n).toNat < cs.length := by rw [hr.len]; omega
      have hix : ixN (cs.map V.int).length ((x - y) % n) = some ((x - y) % n).toNat := by
        unfold ixN
        rw [List.length_map, if_pos bw.1, if_pos (by omega)]
      refine ⟨_, rfl, _, rfl, _, _, rfl, rfl, _, rfl, a, dx, _, _, rfl, x1 _ _ e1, lot_h n lm, _, _, rfl, rfl, by omega, ?_⟩
      dsimp only
      rw [fmod_pos k1]
      refine ⟨_, rfl, _, rfl, c, _, _, _, rfl, rfl, sqL_of hc1, atI_nat (k := ((x - y) % n).toNat) (by omega) (map_get gk), _, _, rfl, rfl, ?_⟩
      refine ⟨_, rfl, _, rfl, c, _, _, _, rfl, rfl, hc1, hix, ?_⟩
      refine hD _ _ (ext_set x1 hc) ?_ (hr.step bw.1 bw.2)
      rw [upd_same, List.map_set]
    refine ⟨_, rfl, a, dx, lm, _, _, rfl, x0 _ _ e1, lot_m n lm, sqL_of (x0 _ _ m1), forS (xs := ms.map V.int) (fun i σ H' => ∃ (v3 v4 v5 : Option V) (cs : List Int), σ = [some (.ref a), some (.ref b), some (.ref c), v3, v4, v5, none] ∧ Ext H H' ∧ H' c = some (.lst (cs.map V.int)) ∧ CntRep n (pairsD n (ms.take i) ms') cs) ⟨_, _, _, _, rfl, x0, upd_same, CntRep.zero n⟩ (fun i σ H' _ ⟨_, _, _, _, _, x1, _⟩ => src_list (sqL_of (x1 _ _ m1))) ?_ ?_⟩
    · rintro i x σ H' e ⟨v3, v4, v5, cs, rfl, x1, hc1, hr⟩
      rw [List.getElem?_map] at e
      cases hw : ms[i]? with
      | none => rw [hw] at e; cases e
      | some w =>
        rw [hw] at e
        cases e
        have hwm := ok.rng w (List.mem_of_getElem? hw)
        refine ⟨_, rfl, b, dx', lm', _, _, rfl, x1 _ _ e1', lot_m n lm', sqL_of (x1 _ _ m1'), forS (xs := ms'.map V.int) (fun j σ H' => ∃ (v4 v5 : Option V) (cs : List Int), σ = [some (.ref a), some (.ref b), some (.ref c), some (.int w), v4, v5, none] ∧ Ext H H' ∧ H' c = some (.lst (cs.map V.int)) ∧ CntRep n (pairsD n (ms.take i) ms' ++ (ms'.take j).map fun y => (w - y) % n) cs) ⟨_, _, _, rfl, x1, hc1, by simpa using hr⟩ (fun i σ H' _ ⟨_, _, _, _, x1, _⟩ => src_list (sqL_of (x1 _ _ m1'))) ?_ ?_⟩
        · rintro j y σ H2 e ⟨v4, v5, cs2, rfl, x2, hc2, hr2⟩
          rw [List.getElem?_map] at e
          cases hy : ms'[j]? with
          | none => rw [hy] at e; cases e
          | some z =>
            rw [hy] at e
            cases e
            refine step _ [] w z _ H2 cs2 hwm x2 hc2 hr2 _ fun cs' H3 x3 hc3 hr3 => ⟨_, _, cs', rfl, x3, hc3, ?_⟩
            rw [List.take_add_one, hy]
            simpa using hr3
        · rintro σ H2 ⟨v4, v5, cs2, rfl, x2, hc2, hr2⟩
          rw [List.length_map, List.take_length] at hr2
          refine ⟨_, _, _, cs2, rfl, x2, hc2, ?_⟩
          rw [List.take_add_one, hw]
          unfold pairsD at hr2 ⊢
          simpa using hr2
    · rintro σ H' ⟨v3, v4, v5, cs, rfl, x1, hc1, hr⟩
      rw [List.length_map, List.take_length] at hr
      rw [hr.tally] at hc1
      exact ⟨_, rfl, h H' c x1 hc1⟩
theorem pure_l_gcd {K : PySem.W.Frag} (F : KF K) (vs : List V) (H : Hp) (Q : VK) (E : XK) (h : sp_l_gcd K vs H Q E) : t_l_gcd K E { nx := fun _ H' => Q .non H', rt := Q } (start ["a", "b"] vs) H := by
  obtain ⟨a, b, rfl, a0, b0, h⟩ := h
  refine while_by (fun σ H' => H' = H ∧ ∃ x y : Int, σ = [some (.int x), some (.int y)] ∧ 0 ≤ x ∧ 0 ≤ y ∧ gcdI x y = gcdI a b) (fun σ _ => match σ with | [_, some (.int y)] => y.toNat | _ => 0) ⟨rfl, a, b, rfl, a0, b0, rfl⟩ ?_ ?_
  · rintro σ H' ⟨rfl, x, y, rfl, x0, y0, e⟩
    refine ⟨_, rfl, y, 0, rfl, rfl, _, rfl, ?_⟩
    by_cases hy : 0 < y
    · refine iteT_of (by simpa using hy) ⟨_, rfl, _, rfl, .inl ⟨x, rfl, _, rfl, x, y, rfl, rfl, by omega, _, _, rfl, ?_⟩⟩
      have r := emod_rng (n := y) (by omega) x
      refine ⟨⟨rfl, y, x.fmod y, rfl, y0, by rw [fmod_pos (by omega)]; exact r.1, ?_⟩, ?_⟩
      · rw [← e, fmod_pos (by omega)]
        unfold gcdI
        rw [Int.toNat_emod x0 y0, Nat.gcd_comm, ← Nat.gcd_rec, Nat.gcd_comm]
      · show (x.fmod y).toNat < y.toNat
        rw [fmod_pos (by omega)]
        omega
    · have : y = 0 := by omega
      subst this
      refine iteF_of (by simp) ⟨_, rfl, ?_⟩
      have : gcdI x 0 = x := by unfold gcdI; simp; omega
      rw [this] at e
      rw [e]
      exact h
  · rintro σ H Q Q' m ⟨v, h1, i, j, e1, e2, k, e3, q⟩
    exact ⟨v, h1, i, j, e1, e2, k, e3, m _ _ q⟩
theorem pure_l_parts {K : PySem.W.Frag} (F : KF K) (vs : List V) (H : Hp) (Q : VK) (E : XK) (h : sp_l_parts K vs H Q E) : t_l_parts K E { nx := fun _ H' => Q .non H', rt := Q } (start ["n", "part"] vs) H := by
  obtain ⟨n, rfl, n1, n2, h⟩ := h
  refine ⟨_, rfl, _, _, rfl, rfl, 1, n + 1, rfl, by omega, fun D hD => lcF (xs := rngV 1 (n + 1 - 1).toNat) (fI fun i => if n % i = 0 then some i else none) hD (fun _ _ => src_rng) (by rw [rngV_len, sizeLine_eq]; omega) ?_ ?_⟩
  · intro x hx H' e R N hR hN
    rw [rng_ones] at hx
    obtain ⟨i, hi, rfl⟩ := mem_mapI hx
    have := mem_ones.mp hi
    bv_omega
    refine ⟨by omega, rfl, ?_⟩
    rw [fmod_pos (by omega)]
    by_cases hc : n % i = 0
    · rw [if_pos hc]
      exact hR _ (by show Option.map V.int (if _ then _ else _) = _; rw [if_pos hc]; rfl)
    · rw [if_neg hc]
      exact hN (by show Option.map V.int (if _ then _ else _) = _; rw [if_neg hc]; rfl)
  · rw [rng_ones, fm_fI, fm_if]
    exact h _ D (ext_new hD) hD upd_same
theorem pure_l_met {K : PySem.W.Frag} (F : KF K) (vs : List V) (H : Hp) (Q : VK) (E : XK) (h : sp_l_met K vs H Q E) : t_l_met K E { nx := fun _ H' => Q .non H', rt := Q } (start ["residues", "n", "counts", "residue"] vs) H := by
  obtain ⟨a, n, rs, rfl, ha, n0, n1, hr, h⟩ := h
  refine ⟨Nat.le_of_ble_eq_true rfl, fun p hp => ⟨_, rfl, p, n, _, rfl, rfl, upd_same, by omega, by omega, by show 1 * _ ≤ _; rw [sizeLine_eq]; omega, fun c hc => ?_⟩⟩
  have c0 := fr_of (ext_new hp) hc
  have x0 : Ext H (upd (upd H p (.lst [.int 0])) c (.lst (List.replicate n.toNat [V.int 0]).flatten)) := ext_set (ext_new hp) c0
  refine ⟨_, rfl, a, rfl, ⟨_, sqL_ext x0 ha⟩, forS (xs := rs.map V.int) (fun i σ H' => ∃ (v : Option V) (cs : List Int), σ = [some (.ref a), some (.int n), some (.ref c), v] ∧ Ext H H' ∧ H' c = some (.lst (cs.map V.int)) ∧ CntRep n (rs.take i) cs) ⟨_, _, rfl, x0, by rw [upd_same, rep_ints], CntRep.zero n⟩ (fun i σ H' _ ⟨v, cs, e, x1, _⟩ => src_list (sqL_ext x1 ha)) ?_ ?_⟩
  · rintro i x σ H' e ⟨v, cs, rfl, x1, hc1, hcs⟩
    rw [List.getElem?_map] at e
    cases hw : rs[i]? with
    | none => rw [hw] at e; cases e
    | some w =>
      rw [hw] at e
      cases e
      have bw := hr w (List.mem_of_getElem? hw)
      have gk := hcs.at_ w.toNat (by omega)
      have hix : ixN (cs.map V.int).length w = some w.toNat := by
        unfold ixN
        rw [List.length_map, hcs.len, if_pos bw.1, if_pos (by omega)]
      refine ⟨_, rfl, _, rfl, c, _, _, _, rfl, rfl, sqL_of hc1, atI_nat (k := w.toNat) (by omega) (map_get gk), _, _, rfl, rfl, ?_⟩
      refine ⟨_, rfl, _, rfl, c, _, _, _, rfl, rfl, hc1, hix, _, _, rfl, ext_set x1 c0, by rw [upd_same, List.map_set], ?_⟩
      rw [List.take_add_one, hw]
      exact hcs.step bw.1 bw.2
  · rintro σ H1 ⟨v, cs, rfl, x1, hc1, hcs⟩
    rw [List.length_map, List.take_length] at hcs
    rw [hcs.tally] at hc1
    exact ⟨_, rfl, h H1 c x1 hc1⟩
theorem pure_l_shift {K : PySem.W.Frag} (F : KF K) (vs : List V) (H : Hp) (Q : VK) (E : XK) (h : sp_l_shift K vs H Q E) : t_l_shift K E { nx := fun _ H' => Q .non H', rt := Q } (start ["number"] vs) H := by
  obtain ⟨b, rfl, b0, b1, h⟩ := h
  exact ⟨_, rfl, _, _, rfl, rfl, _, _, rfl, rfl, ⟨by decide, by decide, by decide⟩, _, _, rfl, rfl, cmulW (by omega) (by decide), _, rfl, _, _, rfl, rfl, h⟩
theorem parts_ne {n : Int} (h : 1 ≤ n) : partsL n ≠ [] := fun z => by
  have : (1 : Int) ∈ partsL n := List.mem_filter.mpr ⟨mem_ones.mpr ⟨by omega, h⟩, by simp [Int.emod_one]⟩
  rw [z] at this
  cases this
theorem pure_l_part {K : PySem.W.Frag} (F : KF K) (vs : List V) (H : Hp) (Q : VK) (E : XK) (h : sp_l_part K vs H Q E) : t_l_part K E { nx := fun _ H' => Q .non H', rt := Q } (start ["n", "number", "parts"] vs) H := by
  obtain ⟨n, b, rfl, n1, n2, h⟩ := h
  refine ⟨_, rfl, n, rfl, n1, n2, fun H1 p x1 _ hp => ?_⟩
  have dl : 0 < (partsL n).length := List.length_pos_iff.mpr (parts_ne n1)
  have b8 := emod_rng (n := ((partsL n).length : Nat)) (by omega) b
  refine ⟨_, rfl, _, rfl, .inl ⟨b, rfl, _, rfl, p, _, rfl, .inl (sqL_of hp), b, _, rfl, rfl, by rw [List.length_map]; omega, p, _, _, _, rfl, rfl, sqL_of hp, by rw [List.length_map, fmod_pos (by omega)]; exact atI_getD (d := 1) b8.1 b8.2, h H1 x1⟩⟩
theorem pure_l_kind {K : PySem.W.Frag} (F : KF K) (vs : List V) (H : Hp) (Q : VK) (E : XK) (h : sp_l_kind K vs H Q E) : t_l_kind K E { nx := fun _ H' => Q .non H', rt := Q } (start ["n", "kind", "number"] vs) H := by
  obtain ⟨n, k, b, rfl, n1, n2, h⟩ := h
  unfold t_l_kind
  bv_omega
  unfold kindOf' at h
  have : b.fmod 2 = b % 2 := fmod_pos (by decide) b
  have r := emod_rng (n := 2) (by decide) b
  refine ⟨rfl, ?_⟩
  by_cases hk : k = 5
  · rw [if_pos hk]
    refine ⟨by decide, cmulW (by omega) (by omega), ?_⟩
    rw [this]
    by_cases hn : 60 < n * (2 + b % 2)
    · rw [if_pos hn]
      rw [if_pos ⟨hk, hn⟩] at h
      exact h
    · rw [if_neg hn]
      rw [if_neg (fun z => hn z.2)] at h
      exact h
  · rw [if_neg hk]
    rw [if_neg (fun z => hk z.1)] at h
    exact h
theorem pure_l_is_lot {K : PySem.W.Frag} (F : KF K) (vs : List V) (H : Hp) (Q : VK) (E : XK) (h : sp_l_is_lot K vs H Q E) : t_l_is_lot K E { nx := fun _ H' => Q .non H', rt := Q } (start ["lot", "n", "due"] vs) H := by
  obtain ⟨a, l, n, ms, rfl, L, hl, h⟩ := h
  obtain ⟨ok, dx, lm, e1, m1⟩ := id L
  have len : (ms.map V.int).length ≤ 200000 := by have := ok.len; rw [List.length_map]; omega
  refine ⟨_, rfl, _, _, _, _, true, rfl, .own _, insAll_ok F.lot e1, by unfold PySem.W.kitOne; rw [if_pos (by simp)], true, rfl, iteT ?_⟩
  refine ⟨_, rfl, a, dx, _, _, rfl, e1, lot_h n lm, _, rfl, _, _, _, rfl, .int _ n, .int _ n, true, rfl, iteT ?_⟩
  exact ⟨_, rfl, a, dx, _, rfl, e1, a, n, ms, rfl, L, fun H2 p x2 hp => ⟨_, rfl, _, _, .list (ms.map PyData.int), rfl, .lst hp len (dnInts _ _ _), .lst (x2 _ _ hl) len (dnInts _ _ _), h H2 x2⟩⟩
theorem pure_l_sum {K : PySem.W.Frag} (F : KF K) (vs : List V) (H : Hp) (Q : VK) (E : XK) (h : sp_l5_sum K vs H Q E) : t_l_sum K E { nx := fun _ H' => Q .non H', rt := Q } (start ["one", "two", "told", "e"] vs) H := by
  obtain ⟨a, b, n, ms, ms', rfl, L, L', h⟩ := h
  obtain ⟨ok, dx, lm, e1, m1⟩ := id L
  obtain ⟨ok', dx', lm', e1', m1'⟩ := id L'
  refine ⟨_, rfl, _, rfl, a, dx, _, b, dx', _, rfl, e1, rfl, e1', a, b, n, n, ms, ms', rfl, L, L', ?_⟩
  unfold addOut onceOut at h ⊢
  rw [if_pos rfl] at h ⊢
  cases e : rep (ms.flatMap fun a => ms'.map fun b => (a + b) % n) with
  | none =>
    rw [e] at h
    exact fun H' a x1 L => ⟨_, rfl, h H' _ x1 ⟨a, rfl, L⟩⟩
  | some m =>
    rw [e] at h
    refine fun H' dd x1 hx => wH_yes ((F.ex (by decide) (by decide)).trans (by decide)) fun a ha => ?_
    exact ⟨_, rfl, rfl, rfl, dd, _, _, rfl, hx, rfl, Nat.le_of_ble_eq_true rfl, fun p hp => ⟨_, rfl, h _ _ (ext_set x1 (fr_of x1 hp)) (.tup upd_same (Nat.le_of_ble_eq_true rfl) (.cons (.str _ _) (.cons (.int _ _) (.nil _))))⟩⟩
theorem pure_l_lots {K : PySem.W.Frag} (F : KF K) (vs : List V) (H : Hp) (Q : VK) (E : XK) (h : sp_l_lots K vs H Q E) : t_l_lots K E { nx := fun _ H' => Q .non H', rt := Q } (start ["script", "n", "index", "fitting", "first", "second", "parts", "part", "h"] vs) H := by
  obtain ⟨a, ns, n, ix, ft, rfl, hS, n1, n2, h⟩ := h
  refine ⟨_, rfl, a, ns, 1, rfl, hS, fun r r0 => ⟨_, rfl, r, 26, n, rfl, r0, by decide, by decide, by omega, by omega, fun H1 f ms x1 _ hf rf => ?_⟩⟩
  refine ⟨_, rfl, a, ns, 2, rfl, sqL_ext x1 hS, fun r' r0' => ⟨_, rfl, r', 40, n, rfl, r0', by decide, by decide, by omega, by omega, fun H2 g ms' x2 _ hg rg => ?_⟩⟩
  have y2 := x1.trans x2
  have hf2 := x2 _ _ hf
  by_cases hw : ft = 0
  · refine ⟨_, rfl, rfl, _, rfl, iteT_of (by simp [hw]) ⟨_, rfl, _, rfl, Nat.le_of_ble_eq_true rfl, fun t ht => ?_⟩⟩
    have x3 := ext_new (o := .tup [V.ref f, V.ref g]) ht
    exact h _ t f g ms ms' (y2.trans x3) upd_same (x3 _ _ hf2) (x3 _ _ hg) rf rg
  · refine ⟨_, rfl, rfl, _, rfl, iteF_of (by simp [hw]) ⟨_, rfl, n, rfl, n1, by omega, fun H3 pr x3 _ hpr => ?_⟩⟩
    have dl : 0 < (partsL n).length := List.length_pos_iff.mpr (fun z => by
      have : (1 : Int) ∈ partsL n := List.mem_filter.mpr ⟨mem_ones.mpr ⟨by omega, n1⟩, by simp [Int.emod_one]⟩
      rw [z] at this
      cases this)
    have b8 := emod_rng (n := ((partsL n).length : Nat)) (by omega) ix
    obtain ⟨pt, hpt, ept⟩ := atI_map (fl := partsL n) (i := ix % ((partsL n).length : Nat)) b8.1 b8.2
    have bp := mem_ones.mp (List.mem_filter.mp hpt).1
    have hf3 := x3 _ _ hf2
    have hg3 := x3 _ _ hg
    refine ⟨_, rfl, _, rfl, .inl ⟨ix, rfl, _, rfl, pr, _, rfl, .inl (sqL_of hpr), ix, _, rfl, rfl, by rw [List.length_map]; omega, pr, _, _, _, rfl, rfl, sqL_of hpr, by rw [List.length_map, fmod_pos (by omega)]; exact ept, ?_⟩⟩
    refine ⟨_, rfl, f, rfl, ⟨_, sqL_of hf3⟩, fun D hD => lcF (fI fun i => if i < pt then some i else none) hD (fun H' x => src_list (sqL_of (x _ _ hf3))) (by have := rising_len rf; rw [List.length_map, sizeLine_eq]; omega) ?_ ?_⟩
    · intro x hx H' e R N hR hN
      obtain ⟨i, hi, rfl⟩ := mem_mapI hx
      bv_omega
      by_cases hc : i < pt
      · rw [if_pos hc]
        exact hR _ (fI_hit (if_pos hc))
      · rw [if_neg hc]
        exact hN (fI_miss (if_neg hc))
    · rw [fm_fI, fm_if]
      have x4 : Ext H3 (upd H3 D (.lst ((ms.filter fun i => decide (i < pt)).map V.int))) := ext_new hD
      refine ⟨_, rfl, g, rfl, ⟨_, sqL_of (x4 _ _ hg3)⟩, fun D2 hD2 => lcF (fI fun i => if i % pt = 0 then some i else none) hD2 (fun H' x => src_list (sqL_of (x _ _ (x4 _ _ hg3)))) (by have := rising_len rg; rw [List.length_map, sizeLine_eq]; omega) ?_ ?_⟩
      · intro x hx H' e R N hR hN
        obtain ⟨i, hi, rfl⟩ := mem_mapI hx
        bv_omega
        refine ⟨by omega, rfl, ?_⟩
        rw [fmod_pos bp.1]
        by_cases hc : i % pt = 0
        · rw [if_pos hc]
          exact hR _ (fI_hit (if_pos hc))
        · rw [if_neg hc]
          exact hN (fI_miss (if_neg hc))
      · rw [fm_fI, fm_if]
        have x5 := ext_set (o := .lst ((ms'.filter fun i => decide (i % pt = 0)).map V.int)) x4 (fr_of x4 hD2)
        have DD : D ≠ D2 := fun z => by rw [← z, upd_same] at hD2; cases hD2
        have hDv : upd (upd H3 D (.lst ((ms.filter fun i => decide (i < pt)).map V.int))) D2 (.lst ((ms'.filter fun i => decide (i % pt = 0)).map V.int)) D = some (.lst ((ms.filter fun i => decide (i < pt)).map V.int)) := by rw [upd_ne DD, upd_same]
        refine ⟨Nat.le_of_ble_eq_true rfl, fun t ht => ?_⟩
        have x6 := ext_new (o := .tup [V.ref D, V.ref D2]) ht
        exact h _ t D D2 _ _ (((y2.trans x3).trans x5).trans x6) upd_same (x6 _ _ hDv) (x6 _ _ upd_same) (rising_filter rf _) (rising_filter rg _)
theorem pure_l_counts {K : PySem.W.Frag} (F : KF K) (vs : List V) (H : Hp) (Q : VK) (E : XK) (h : sp_l_counts K vs H Q E) : t_l_counts K E { nx := fun _ H' => Q .non H', rt := Q } (start ["members", "n", "marks", "counts", "d", "h"] vs) H := by
  obtain ⟨a, n, ms, rfl, ha, ok, h⟩ := h
  have k1 := ok.n1
  have k2 := ok.n2
  have hlen := ok.len
  refine ⟨_, rfl, n, rfl, by omega, by omega, fun m hm => lcF (xs := rngV 0 n.toNat) (fun v => match v with | .int i => some (.bl (decide (i ∈ ms))) | _ => none) hm (fun _ _ => src_rng) (by rw [rngV_len, sizeLine_eq]; omega) ?_ ?_⟩
  · intro x hx H' e R N hR hN
    rw [rng_ring] at hx
    obtain ⟨i, hi, rfl⟩ := mem_mapI hx
    refine ⟨_, rfl, _, rfl, a, _, rfl, .inl (sqL_of (e _ _ ha)), rfl, flat_ints ms, ?_⟩
    rw [inV_ints]
    exact hR _ rfl
  · have e : ((rngV 0 n.toNat).filterMap fun v => match v with | .int i => some (V.bl (decide (i ∈ ms))) | _ => none) = (ring n).map fun i => V.bl (decide (i ∈ ms)) := by
      rw [rng_ring, List.filterMap_map]
      exact fm_some (fun i => V.bl (decide (i ∈ ms))) (ring n)
    rw [e]
    have x0 : Ext H (upd H m (.lst ((ring n).map fun i => V.bl (decide (i ∈ ms))))) := ext_new hm
    generalize hH1 : upd H m (.lst ((ring n).map fun i => V.bl (decide (i ∈ ms)))) = H1 at x0
    have hm1 : H1 m = some (.lst ((ring n).map fun i => V.bl (decide (i ∈ ms)))) := by rw [← hH1, upd_same]
    have ha1 := x0 _ _ ha
    refine ⟨Nat.zero_le _, fun c hc => ?_⟩
    refine ⟨_, rfl, n, rfl, by omega, by omega, forS (xs := rngV 0 n.toNat) (fun i σ H' => ∃ v : Option V, σ = [some (.ref a), some (.int n), some (.ref m), some (.ref c), v, none] ∧ Ext H1 H' ∧ H' c = some (.lst ((((ring n).take i).map fun d => ((cnt1 n ms d : Nat) : Int)).map V.int))) ⟨_, rfl, ext_new hc, upd_same⟩ (fun _ _ _ _ _ => src_rng) ?_ ?_⟩
    · rintro i x σ H' e ⟨v, rfl, x1, hc1⟩
      rw [rng_ring, List.getElem?_map] at e
      cases hw : (ring n)[i]? with
      | none => rw [hw] at e; cases e
      | some d =>
        rw [hw] at e
        cases e
        have il : i < (ring n).length := (List.getElem?_eq_some_iff.mp hw).1
        rw [ring_len] at il
        refine ⟨_, rfl, tyL hc1, _, rfl, a, rfl, ⟨_, sqL_of (x1 _ _ ha1)⟩, fun D hD => lcF (fI fun b => if (b + d) % n ∈ ms then some b else none) hD (fun H3 x3 => src_list (sqL_of (x3 _ _ (x1 _ _ ha1)))) (by rw [List.length_map, sizeLine_eq]; omega) ?_ ?_⟩
        · intro x hx H3 e3 R N hR hN
          obtain ⟨b, hb, rfl⟩ := mem_mapI hx
          have r := emod_rng k1 (b + d)
          have gm : ((ring n).map fun i => V.bl (decide (i ∈ ms)))[((b + d) % n).toNat]? = some (.bl (decide ((b + d) % n ∈ ms))) := by
            unfold ring
            rw [List.getElem?_map, List.getElem?_map, List.getElem?_range (by omega)]
            show some (V.bl (decide (((((b + d) % n).toNat : Nat) : Int) ∈ ms))) = _
            rw [show ((((b + d) % n).toNat : Nat) : Int) = (b + d) % n by omega]
          refine ⟨_, rfl, _, rfl, _, rfl, _, _, rfl, rfl, .inl ⟨_, rfl, _, rfl, _, _, rfl, rfl, by omega, m, _, _, _, rfl, rfl, sqL_of ((x1.trans e3) _ _ hm1), by rw [fmod_pos k1]; exact atI_nat (k := ((b + d) % n).toNat) (by omega) gm, _, rfl, ?_⟩⟩
          by_cases hcc : (b + d) % n ∈ ms
          · exact iteT_of (by simp [hcc]) ⟨_, rfl, hR _ (fI_hit (if_pos hcc))⟩
          · exact iteF_of (by simp [hcc]) (hN (fI_miss (if_neg hcc)))
        · rw [fm_fI, fm_if]
          have cD : c ≠ D := ne_of_none hc1 hD
          refine ⟨D, _, rfl, .inl (sqL_of upd_same), c, _, _, rfl, rfl, by rw [upd_ne cD]; exact hc1, by simp only [List.length_map, List.length_take, ring_len]; rw [sizeLine_eq]; omega, _, rfl, ext_set (x1.trans (ext_new hD)) hc, ?_⟩
          rw [upd_same, List.take_add_one, hw, List.length_map, ← List.countP_eq_length_filter]
          simp [cnt1]
    · rintro σ H' ⟨v, rfl, x1, hc1⟩
      rw [rngV_len, ← ring_len, List.take_length] at hc1
      exact ⟨_, rfl, h H' c (x0.trans x1) hc1⟩
theorem pure_l_fold {K : PySem.W.Frag} (F : KF K) (vs : List V) (H : Hp) (Q : VK) (E : XK) (h : sp_l_fold K vs H Q E) : t_l_fold K E { nx := fun _ H' => Q .non H', rt := Q } (start ["one", "two", "n", "d", "e"] vs) H := by
  obtain ⟨a, b, n, xs, ys, rfl, ha, hb, n1, n2, lx, ly, hx1, hy1, h⟩ := h
  refine ⟨_, rfl, n, rfl, by omega, by omega, fun D hD => lcA (xs := rngV 0 n.toNat) (fun v => match v with | .int d => .int (((ring n).map fun e => (xs[e.toNat]?.getD 0) * (ys[((d - e) % n).toNat]?.getD 0)).sum) | v => v) hD (fun _ _ => src_rng) (by rw [rngV_len, sizeLine_eq]; omega) ?_ ?_⟩
  · intro x hx H1 e1 R hR
    rw [rng_ring] at hx
    obtain ⟨d, hd, rfl⟩ := mem_mapI hx
    refine ⟨_, rfl, n, rfl, by omega, by omega, fun D2 hD2 => lcF (xs := rngV 0 n.toNat) (fI fun e => some ((xs[e.toNat]?.getD 0) * (ys[((d - e) % n).toNat]?.getD 0))) hD2 (fun _ _ => src_rng) (by rw [rngV_len, sizeLine_eq]; omega) ?_ ?_⟩
    · intro x hx H2 e2 R2 N hR2 hN
      rw [rng_ring] at hx
      obtain ⟨e, he, rfl⟩ := mem_mapI hx
      have hr := mem_ring.mp he
      have r := emod_rng n1 (d - e)
      have hxl : e.toNat < xs.length := by omega
      have bx := hx1 _ (List.getElem_mem hxl)
      refine ⟨_, rfl, _, rfl, a, _, _, _, rfl, rfl, sqL_of ((e1.trans e2) _ _ ha), atI_getD (d := 0) hr.1 (by omega), _, rfl, _, rfl, _, rfl, _, _, rfl, rfl, .inl ⟨_, rfl, _, rfl, _, _, rfl, rfl, by omega, b, _, _, _, rfl, rfl, sqL_of ((e1.trans e2) _ _ hb), by rw [fmod_pos n1]; exact atI_getD (d := 0) r.1 (by omega), _, _, rfl, rfl, ?_, hR2 _ rfl⟩⟩
      have hyl : ((d - e) % n).toNat < ys.length := by omega
      have by1 := hy1 _ (List.getElem_mem hyl)
      rw [List.getElem?_eq_getElem hxl, List.getElem?_eq_getElem hyl]
      show CMulW xs[e.toNat] ys[((d - e) % n).toNat]
      exact cmulW (by omega) (by omega)
    · rw [rng_ring, fm_fI, fm_some]
      exact ⟨D2, _, rfl, sqL_of upd_same, hR _ (ext_new hD2)⟩
  · intro H' x1 hD'
    refine h H' D x1 ?_
    rw [hD', rng_ring, List.map_map]
    unfold foldL
    rw [List.map_map]
    rfl
theorem pure_l_factor {K : PySem.W.Frag} (F : KF K) (vs : List V) (H : Hp) (Q : VK) (E : XK) (h : sp_l_factor K vs H Q E) : t_l_factor K E { nx := fun _ H' => Q .non H', rt := Q } (start ["n", "number", "units_here", "t"] vs) H := by
  obtain ⟨n, b, rfl, n1, n2, b0, b1, h⟩ := h
  refine ⟨_, rfl, _, _, rfl, rfl, 1, n + 1, rfl, by omega, fun D hD => lcF (xs := rngV 1 (n + 1 - 1).toNat) (fI fun i => if gcdI i n = 1 then some i else none) hD (fun _ _ => src_rng) (by rw [rngV_len, sizeLine_eq]; omega) ?_ ?_⟩
  · intro x hx H' e R N hR hN
    rw [rng_ones] at hx
    obtain ⟨i, hi, rfl⟩ := mem_mapI hx
    have := mem_ones.mp hi
    refine ⟨_, rfl, _, rfl, i, n, rfl, by omega, by omega, rfl, _, rfl, ?_⟩
    by_cases hc : gcdI i n = 1
    · exact iteT_of (by simp [hc]) ⟨_, rfl, hR _ (fI_hit (if_pos hc))⟩
    · exact iteF_of (by simp [hc]) (hN (fI_miss (if_neg hc)))
  · rw [rng_ones, fm_fI, fm_if]
    have dl : 0 < (unitsL n).length := List.length_pos_iff.mpr (units_ne n1)
    have r := emod_rng (n := ((unitsL n).length : Nat)) (by omega) b
    have hu : upd H D (.lst (((ones n).filter fun i => decide (gcdI i n = 1)).map V.int)) D = some (.lst ((unitsL n).map V.int)) := by rw [upd_same]; rfl
    refine ⟨_, rfl, _, rfl, .inl ⟨b, rfl, _, rfl, D, _, rfl, .inl (sqL_of hu), b, _, rfl, rfl, by rw [List.length_map]; omega, D, _, _, _, rfl, rfl, sqL_of hu, by rw [List.length_map, fmod_pos (by omega)]; exact atI_getD (d := 0) r.1 r.2, _, rfl, _, rfl, _, _, rfl, rfl, _, _, rfl, rfl, cmulW (by omega) (by omega), _, _, rfl, rfl, h _ (ext_new hD)⟩⟩
theorem pure_l_done {K : PySem.W.Frag} (F : KF K) (vs : List V) (H : Hp) (Q : VK) (E : XK) (h : sp_l5_done K vs H Q E) : t_l_done K E { nx := fun _ H' => Q .non H', rt := Q } (start ["lot", "n", "kind", "number"] vs) H := by
  obtain ⟨a, n, k, b, ms, rfl, L, k0, k1, b0, b1, h⟩ := h
  obtain ⟨ok, dx, lm, e1, m1⟩ := id L
  have n1 := ok.n1
  have n2 := ok.n2
  have fb := factor_bound (b := b) n1 (by omega) b0 (by omega)
  have ft : (factorOf n b).natAbs < 2 ^ 400 := Nat.lt_trans fb (by decide)
  have rb := emod_rng (n := 2) (by decide) b
  have eb : b.fmod 2 = b % 2 := fmod_pos (by decide) b
  unfold deedOut at h
  unfold t_l_done
  by_cases e0 : k = 0
  · rw [if_pos e0] at h
    refine ⟨_, rfl, rfl, _, rfl, iteT_of (by simp [e0]) ⟨_, rfl, _, rfl, b, rfl, b0, by omega, a, dx, _, shiftOf b, rfl, e1, rfl, a, n, shiftOf b, ms, rfl, L, h⟩⟩
  rw [if_neg e0] at h
  refine ⟨_, rfl, rfl, _, rfl, iteF_of (by simp [e0]) ?_⟩
  by_cases e1' : k = 1
  · rw [if_pos e1'] at h
    refine ⟨_, rfl, rfl, _, rfl, iteT_of (by simp [e1']) ⟨_, rfl, _, rfl, b, rfl, b0, by omega, a, dx, _, shiftOf b, rfl, e1, rfl, a, n, shiftOf b, ms, rfl, L, h⟩⟩
  rw [if_neg e1'] at h
  refine ⟨_, rfl, rfl, _, rfl, iteF_of (by simp [e1']) ?_⟩
  by_cases e2 : k = 2
  · rw [if_pos e2] at h
    refine ⟨_, rfl, rfl, _, rfl, iteT_of (by simp [e2]) ⟨_, rfl, a, dx, _, rfl, e1, a, n, ms, rfl, L, h⟩⟩
  rw [if_neg e2] at h
  refine ⟨_, rfl, rfl, _, rfl, iteF_of (by simp [e2]) ?_⟩
  by_cases e3 : k = 3
  · rw [if_pos e3] at h
    refine ⟨_, rfl, rfl, _, rfl, iteT_of (by simp [e3]) ⟨_, rfl, a, dx, _, rfl, e1, a, n, ms, rfl, L, h⟩⟩
  rw [if_neg e3] at h
  refine ⟨_, rfl, rfl, _, rfl, iteF_of (by simp [e3]) ?_⟩
  by_cases e4 : k = 4
  · rw [if_pos e4] at h
    refine ⟨_, rfl, rfl, _, rfl, iteT_of (by simp [e4]) ⟨_, rfl, .inl ⟨b, rfl, _, _, rfl, rfl, (by decide : (2 : Int) ≠ 0), rfl, _, rfl, ?_⟩⟩⟩
    by_cases hb : b % 2 = 0
    · refine iteT_of (by simp [eb, hb]) ⟨_, rfl, _, rfl, _, rfl, n, b, rfl, n1, by omega, b0, by omega, fun H2 x2 => ⟨a, dx, _, factorOf n b, rfl, x2 _ _ e1, rfl, a, n, factorOf n b, ms, rfl, L.ext x2, ft, h.ext x2⟩⟩
    · refine iteF_of (by simp [eb, hb]) ⟨_, rfl, rfl, _, rfl, iteT_of (by simp [e4]) ⟨_, rfl, _, rfl, n, b, rfl, n1, by omega, b0, by omega, fun H2 x2 => ⟨_, rfl, factorOf n b, a, dx, _, rfl, rfl, x2 _ _ e1, a, n, factorOf n b, ms, rfl, L.ext x2, ft, h.ext x2⟩⟩⟩
  rw [if_neg e4] at h
  refine ⟨_, rfl, rfl, _, rfl, iteF_of (by simp [e4]) (iteF_of rfl ?_)⟩
  refine ⟨_, rfl, rfl, _, rfl, iteF_of (by simp [e4]) ?_⟩
  by_cases e5 : k = 5
  · rw [if_pos e5] at h
    refine ⟨_, rfl, rfl, _, rfl, iteT_of (by simp [e5]) ⟨_, rfl, .inl ⟨b, rfl, _, _, rfl, rfl, (by decide : (2 : Int) ≠ 0), rfl, _, rfl, ?_⟩⟩⟩
    by_cases hb : b % 2 = 0
    · rw [hb] at h
      refine iteT_of (by simp [eb, hb]) ⟨_, rfl, a, dx, _, 2, rfl, e1, rfl, a, n, 2, ms, rfl, L, by decide, h⟩
    · rw [show b % 2 = 1 by omega] at h
      refine iteF_of (by simp [eb, hb]) ⟨_, rfl, rfl, _, rfl, iteT_of (by simp [e5]) ⟨_, rfl, a, dx, _, 3, rfl, e1, rfl, a, n, 3, ms, rfl, L, by decide, h⟩⟩
  rw [if_neg e5] at h
  refine ⟨_, rfl, rfl, _, rfl, iteF_of (by simp [e5]) (iteF_of rfl ?_)⟩
  refine ⟨_, rfl, rfl, _, rfl, iteF_of (by simp [e5]) ?_⟩
  exact ⟨_, rfl, _, rfl, _, rfl, n, b, rfl, n1, by omega, fun H2 x2 => ⟨a, dx, _, partOf n b, rfl, x2 _ _ e1, rfl, a, n, partOf n b, ms, rfl, L.ext x2, h.ext x2⟩⟩
theorem pure_l_told {K : PySem.W.Frag} (F : KF K) (vs : List V) (H : Hp) (Q : VK) (E : XK) (h : sp_l5_told K vs H Q E) : t_l_told K E { nx := fun _ H' => Q .non H', rt := Q } (start ["lot", "n", "kind", "number", "told", "e"] vs) H := by
  obtain ⟨a, n, k, b, ms, rfl, L, k0, k1, b0, b1, h5, h⟩ := h
  refine ⟨_, rfl, _, rfl, _, rfl, _, rfl, a, n, k, b, ms, rfl, L, k0, k1, b0, b1, ?_⟩
  rcases deed_cases (k := k) (b := b) L.1 k0 k1 h5 with ⟨n', l, e⟩ | ⟨m, e⟩
  · rw [e] at h ⊢
    exact fun H' a x1 L => ⟨_, rfl, h H' _ x1 ⟨a, rfl, L⟩⟩
  · rw [e] at h ⊢
    refine fun H' dd x1 hx => wH_yes ((F.ex (by decide) (by decide)).trans (by decide)) fun a ha => ?_
    exact ⟨_, rfl, rfl, rfl, dd, _, _, rfl, hx, rfl, Nat.le_of_ble_eq_true rfl, fun p hp => ⟨_, rfl, h _ _ (ext_set x1 (fr_of x1 hp)) (.tup upd_same (Nat.le_of_ble_eq_true rfl) (.cons (.str _ _) (.cons (.int _ _) (.nil _))))⟩⟩
theorem pure_l_copied_due {K : PySem.W.Frag} (F : KF K) (vs : List V) (H : Hp) (Q : VK) (E : XK) (h : sp_l_copied_due K vs H Q E) : t_l_copied_due K E { nx := fun _ H' => Q .non H', rt := Q } (start ["members", "counts", "n", "times", "found", "lap", "h", "d"] vs) H := by
  obtain ⟨a, c, n, t, ms, cs, rfl, ha, hc, ok, lc, sm, t1, t3, h⟩ := h
  have n1 := ok.n1
  have n2 := ok.n2
  have hlen := ok.len
  have wm : CMulW n t := cmulW (by omega) (by omega)
  have p1 : 0 < n * t := Int.mul_pos (by omega) (by omega)
  have p2 : n * t ≤ 360 * 3 := Int.mul_le_mul n2 t3 (by omega) (by omega)
  refine ⟨Nat.zero_le _, fun f hf => ?_⟩
  have x0 : Ext H (upd H f (.lst [])) := ext_new hf
  refine ⟨_, rfl, t, rfl, by omega, by omega, forS (xs := rngV 0 t.toNat) (fun i σ H' => i ≤ t.toNat ∧ ∃ (v : Option V) (g : Addr), σ = [some (.ref a), some (.ref c), some (.int n), some (.int t), some (.ref g), v, none, none] ∧ Ext H H' ∧ H' g = some (.lst ((copies n ms i).map V.int))) ⟨Nat.zero_le _, _, f, rfl, x0, upd_same⟩ (fun _ _ _ _ _ => src_rng) ?_ ?_⟩
  · rintro i x σ H' e ⟨hi, v, g, rfl, x1, hg⟩
    rw [rngV_get] at e
    by_cases hi2 : i < t.toNat
    · rw [if_pos hi2] at e
      cases e
      refine ⟨_, rfl, _, rfl, a, rfl, ⟨_, sqL_of (x1 _ _ ha)⟩, fun D hD => lcF (fI fun j => some (j + (i : Int) * n)) hD (fun H3 x3 => src_list (sqL_of (x3 _ _ (x1 _ _ ha)))) (by rw [List.length_map, sizeLine_eq]; omega) ?_ ?_⟩
      · intro x hx H3 e3 R N hR hN
        obtain ⟨j, hj, rfl⟩ := mem_mapI hx
        bv_omega
        refine ⟨cmulW (by omega) (by omega), ?_⟩
        rw [Int.zero_add]
        exact hR _ rfl
      · rw [fm_fI, fm_some]
        have gD : g ≠ D := ne_of_none hg hD
        have D0 := fr_of x1 hD
        have lcp : (copies n ms i).length ≤ 3 * 360 := by
          have := fl_len (F := fun lap : Nat => ms.map fun a : Int => a + (lap : Int) * n) (xs := List.range ((i : Nat) : Int).toNat) (b := 360) fun x _ => by rw [List.length_map]; exact hlen
          rw [List.length_range] at this
          have h2 : ((i : Nat) : Int).toNat ≤ 3 := by omega
          exact Nat.le_trans this (Nat.mul_le_mul_right 360 h2)
        refine ⟨g, D, _, _, rfl, rfl, by rw [upd_ne gD]; exact hg, upd_same, by simp only [List.length_map]; rw [sizeLine_eq]; omega, fun g2 hg2 => ⟨by omega, _, g2, rfl, ext_set (ext_set x1 D0) (fr_of (ext_set x1 D0) hg2), ?_⟩⟩
        rw [upd_same]
        unfold copies
        rw [show ((i + 1 : Nat) : Int).toNat = i + 1 by omega, show ((i : Nat) : Int).toNat = i by omega, List.range_succ]
        simp
    · rw [if_neg hi2] at e
      cases e
  · rintro σ H1 ⟨_, v, g, rfl, x1, hg⟩
    rw [rngV_len, show ((t.toNat : Nat) : Int) = t by omega] at hg
    refine ⟨_, rfl, _, rfl, _, _, rfl, rfl, wm, _, rfl, _, rfl, _, rfl, _, _, rfl, rfl, wm, n * t, rfl, by omega, by omega, fun D hD => lcF (xs := rngV 0 (n * t).toNat) (fI fun d => some (t * (cs[(d % n).toNat]?.getD 0))) hD (fun _ _ => src_rng) (by rw [rngV_len, sizeLine_eq]; omega) ?_ ?_⟩
    · intro x hx H2 e2 R N hR hN
      rw [rng_ring] at hx
      obtain ⟨d, hd, rfl⟩ := mem_mapI hx
      have r := emod_rng n1 d
      have sb := getD_small sm (d % n).toNat
      refine ⟨_, rfl, _, rfl, _, rfl, .inl ⟨d, rfl, _, rfl, d, n, rfl, rfl, by omega, c, _, _, _, rfl, rfl, sqL_of ((x1.trans e2) _ _ hc), by rw [fmod_pos n1]; exact atI_getD (d := 0) r.1 (by omega), _, _, rfl, rfl, cmulW (by omega) (by omega), hR _ rfl⟩⟩
    · rw [rng_ring, fm_fI, fm_some]
      have gD : g ≠ D := ne_of_none hg hD
      refine ⟨Nat.le_of_ble_eq_true rfl, fun p hp => h _ _ (x1.trans ((ext_new hD).trans (ext_new hp))) ⟨p, g, D, rfl, upd_same, ?_, ?_⟩⟩
      · exact ext_new hp _ _ (by rw [upd_ne gD]; exact hg)
      · exact ext_new hp _ _ upd_same
theorem pure_l_residues_due {K : PySem.W.Frag} (F : KF K) (vs : List V) (H : Hp) (Q : VK) (E : XK) (h : sp_l_residues_due K vs H Q E) : t_l_residues_due K E { nx := fun _ H' => Q .non H', rt := Q } (start ["members", "counts", "n", "part", "met", "twice", "found", "h", "d", "e"] vs) H := by
  obtain ⟨a, c, n, m, ms, cs, rfl, ha, hc, ok, lc, sm, m1, m2, h⟩ := h
  have n1 := ok.n1
  have n2 := ok.n2
  have hlen := ok.len
  have hrr : ∀ r ∈ ms.map (fun x => x % m), 0 ≤ r ∧ r < m := fun r hr => by obtain ⟨k, _, rfl⟩ := List.mem_map.mp hr; exact emod_rng m1 k
  refine ⟨_, rfl, a, rfl, ⟨_, sqL_of ha⟩, fun D hD => lcF (fI fun x => some (x % m)) hD (fun H' x => src_list (sqL_of (x _ _ ha))) (by rw [List.length_map, sizeLine_eq]; omega) ?_ ?_⟩
  · intro x hx H' e R N hR hN
    obtain ⟨i, hi, rfl⟩ := mem_mapI hx
    bv_omega
    refine ⟨by omega, ?_⟩
    rw [fmod_pos m1]
    exact hR _ rfl
  · rw [fm_fI, fm_some]
    refine ⟨_, rfl, D, m, ms.map fun x => x % m, rfl, sqL_of upd_same, by omega, by omega, hrr, fun H1 p x1 hp => ?_⟩
    have y1 : Ext H H1 := (ext_new hD).trans x1
    refine ⟨_, rfl, m, rfl, by omega, by omega, fun T hT => lcF (xs := rngV 0 m.toNat) (fI fun i => if 1 < (ms.map fun x => x % m).count i then some i else none) hT (fun _ _ => src_rng) (by rw [rngV_len, sizeLine_eq]; omega) ?_ ?_⟩
    · intro x hx H' e R N hR hN
      rw [rng_ring] at hx
      obtain ⟨i, hi, rfl⟩ := mem_mapI hx
      have hi' := mem_ring.mp hi
      refine ⟨_, rfl, _, rfl, p, _, i, _, rfl, rfl, sqL_of (e _ _ hp), atI_nat (k := i.toNat) (by omega) (map_get (tally_at hi'.1 hi'.2)), _, _, rfl, rfl, _, rfl, ?_⟩
      by_cases hcc : 1 < (ms.map fun x => x % m).count i
      · exact iteT_of (by simpa using (by omega : (1 : Int) < (((ms.map fun x => x % m).count i : Nat) : Int))) ⟨_, rfl, hR _ (fI_hit (if_pos hcc))⟩
      · exact iteF_of (by simpa using (by omega : (((ms.map fun x => x % m).count i : Nat) : Int) ≤ 1)) (hN (fI_miss (if_neg hcc)))
    · rw [rng_ring, fm_fI, fm_if]
      have pT : p ≠ T := ne_of_none hp hT
      generalize hH2 : upd H1 T (.lst (((ring m).filter fun i => decide (1 < (ms.map fun x => x % m).count i)).map V.int)) = H2
      have x2 : Ext H1 H2 := by rw [← hH2]; exact ext_new hT
      have hT2 : H2 T = some (.lst (((ring m).filter fun i => decide (1 < (ms.map fun x => x % m).count i)).map V.int)) := by rw [← hH2, upd_same]
      have y2 := y1.trans x2
      have hp2 := x2 _ _ hp
      have tw := twice_ring hrr
      refine ⟨_, rfl, T, _, rfl, .inl (sqL_of hT2), _, _, rfl, rfl, _, rfl, ?_⟩
      dsimp only
      rw [List.length_map]
      unfold resDue at h
      cases e : (ring m).filter fun i => decide (1 < (ms.map fun x => x % m).count i) with
      | cons z r =>
        rw [e] at tw hT2
        rw [tw] at h
        refine iteT_of (by simp) ⟨_, rfl, T, _, 0, .int z, rfl, rfl, sqL_of hT2, atI_nat (k := 0) rfl rfl, Nat.le_of_ble_eq_true rfl, fun q hq => h _ _ (y2.trans (ext_new hq)) (.tup upd_same (Nat.le_of_ble_eq_true rfl) (.cons (.str _ _) (.cons (.int _ _) (.nil _))))⟩
      | nil =>
        rw [e] at tw
        have tw : rep (ms.map fun x => x % m) = none := tw
        rw [tw] at h
        refine iteF_of (by simp) ?_
        refine ⟨_, rfl, m, rfl, by omega, by omega, fun G hG => lcA (xs := rngV 0 m.toNat) (fun v => match v with | .int d => .int ((((ring n).filter fun e => decide (e % m = d)).map fun e => cs[e.toNat]?.getD 0).sum) | v => v) hG (fun _ _ => src_rng) (by rw [rngV_len, sizeLine_eq]; omega) ?_ ?_⟩
        · intro x hx H3 e3 R hR
          rw [rng_ring] at hx
          obtain ⟨d, hd, rfl⟩ := mem_mapI hx
          have hd' := mem_ring.mp hd
          refine ⟨_, rfl, _, rfl, _, rfl, d, n, m, stepsN d n m, rfl, steps_rgc hd'.1 (by omega) m1 m2 (by omega), fun D2 hD2 => lcF (xs := (List.range (stepsN d n m)).map fun i : Nat => V.int (d + (i : Int) * m)) (fI fun e => some (cs[e.toNat]?.getD 0)) hD2 (fun _ _ => src_steps) ?_ ?_ ?_⟩
          · have hle : stepsN d n m ≤ 1000 := by
              have := Int.ediv_le_self (b := m) (show 0 ≤ n - d - 1 by omega)
              unfold stepsN
              omega
            rw [List.length_map, List.length_range, sizeLine_eq]
            omega
          · intro x hx H4 e4 R2 N hR2 hN
            obtain ⟨k, hk, rfl⟩ := List.mem_map.mp hx
            have hmem : d + (k : Int) * m ∈ stepsL d n m := List.mem_map.mpr ⟨k, hk, rfl⟩
            have he := mem_ring.mp ((steps_mem hd'.1 (by omega) hd'.2 m1).mp hmem).1
            exact ⟨_, rfl, _, rfl, c, _, _, _, rfl, rfl, sqL_of (e4 _ _ (e3 _ _ (y2 _ _ hc))), atI_getD (d := 0) he.1 (by omega), hR2 _ rfl⟩
          · have es : ((List.range (stepsN d n m)).map fun i : Nat => V.int (d + (i : Int) * m)) = (stepsL d n m).map V.int := by unfold stepsL; rw [List.map_map]; rfl
            rw [es, fm_fI, fm_some, steps_eq hd'.1 (by omega) hd'.2 m1]
            exact ⟨D2, _, rfl, sqL_of upd_same, hR _ (ext_new hD2)⟩
        · intro H3 x3 hG3
          have y3 := y2.trans x3
          refine ⟨_, rfl, _, rfl, m, rfl, by omega, by omega, fun U hU => lcF (xs := rngV 0 m.toNat) (fI fun i => if (ms.map fun x => x % m).count i = 1 then some i else none) hU (fun _ _ => src_rng) (by rw [rngV_len, sizeLine_eq]; omega) ?_ ?_⟩
          · intro x hx H' e R N hR hN
            rw [rng_ring] at hx
            obtain ⟨i, hi, rfl⟩ := mem_mapI hx
            have hi' := mem_ring.mp hi
            refine ⟨_, rfl, _, rfl, p, _, i, _, rfl, rfl, sqL_of (e _ _ (x3 _ _ hp2)), atI_nat (k := i.toNat) (by omega) (map_get (tally_at hi'.1 hi'.2)), rfl, _, rfl, ?_⟩
            by_cases hcc : (ms.map fun x => x % m).count i = 1
            · exact iteT_of (by rw [hcc]; rfl) ⟨_, rfl, hR _ (fI_hit (if_pos hcc))⟩
            · exact iteF_of (by simp; omega) (hN (fI_miss (if_neg hcc)))
          · rw [rng_ring, fm_fI, fm_if, once_ring hrr tw]
            have GU : G ≠ U := ne_of_none hG3 hU
            refine ⟨_, rfl, Nat.le_of_ble_eq_true rfl, fun q hq => h _ _ (y3.trans ((ext_new hU).trans (ext_new hq))) ⟨q, U, G, rfl, upd_same, ext_new hq _ _ upd_same, ?_⟩⟩
            refine ext_new hq _ _ ?_
            rw [upd_ne GU, hG3, rng_ring, List.map_map, List.map_map]
            rfl
theorem due_tail {K : PySem.W.Frag} {E : XK} {Q : VK} {H : Hp} {a c M G : Addr} {n k b : Int} {ms mv fs : List Int} {v7 : Option V} (hM : H M = some (.lst (mv.map V.int))) (hG : H G = some (.lst (fs.map V.int))) (n1 : 1 ≤ n) (n2 : n ≤ 360) (lm : mv.length ≤ 360)
    (h : ∀ H' v, Ext H H' → DueAt H' v (.inl (n, (ring n).filter (fun h => decide (h ∈ mv.map fun m => m % n)), fs)) → Q v H') :
    t_l_due_8 K E { nx := fun _ H' => Q .non H', rt := Q } [some (.ref a), some (.ref c), some (.int n), some (.int k), some (.int b), some (.ref M), some (.ref G), v7, none, none, none] H := by
  refine ⟨_, rfl, M, rfl, ⟨_, sqL_of hM⟩, fun D hD => lcF (fI fun x => some (x % n)) hD (fun H' x => src_list (sqL_of (x _ _ hM))) (by rw [List.length_map, sizeLine_eq]; omega) ?_ ?_⟩
  · intro x hx H' e R N hR hN
    obtain ⟨i, hi, rfl⟩ := mem_mapI hx
    bv_omega
    refine ⟨by omega, ?_⟩
    rw [fmod_pos n1]
    exact hR _ rfl
  · rw [fm_fI, fm_some]
    generalize hH1 : upd H D (.lst ((mv.map fun x => x % n).map V.int)) = H1
    have x1 : Ext H H1 := by rw [← hH1]; exact ext_new hD
    have hD1 : H1 D = some (.lst ((mv.map fun x => x % n).map V.int)) := by rw [← hH1, upd_same]
    refine ⟨_, rfl, _, rfl, n, rfl, by omega, by omega, fun U hU => lcF (xs := rngV 0 n.toNat) (fI fun i => if i ∈ mv.map (fun x => x % n) then some i else none) hU (fun _ _ => src_rng) (by rw [rngV_len, sizeLine_eq]; omega) ?_ ?_⟩
    · intro x hx H' e R N hR hN
      rw [rng_ring] at hx
      obtain ⟨i, hi, rfl⟩ := mem_mapI hx
      refine ⟨_, rfl, _, rfl, D, _, rfl, .inl (sqL_of (e _ _ hD1)), rfl, flat_ints _, _, rfl, ?_⟩
      rw [inV_ints]
      by_cases hcc : i ∈ mv.map (fun x => x % n)
      · exact iteT_of (by simpa using hcc) ⟨_, rfl, hR _ (fI_hit (if_pos hcc))⟩
      · exact iteF_of (by simpa using hcc) (hN (fI_miss (if_neg hcc)))
    · rw [rng_ring, fm_fI, fm_if]
      refine ⟨_, rfl, Nat.le_of_ble_eq_true rfl, fun q hq => h _ _ (x1.trans ((ext_new hU).trans (ext_new hq))) ⟨q, U, G, rfl, upd_same, ext_new hq _ _ upd_same, ext_new hq _ _ (ext_new hU _ _ (x1 _ _ hG))⟩⟩
theorem fold_len {cs : List Int} {n t : Int} : ∀ (l : List Int) (f : List Int), (l.foldl (fun found d => found.set ((d * t) % n).toNat (cs[d.toNat]?.getD 0)) f).length = f.length
  | [], _ => rfl
  | d :: r, f => by rw [List.foldl_cons, fold_len r, List.length_set]
theorem due_six {K : PySem.W.Frag} {E : XK} {Q : VK} {H : Hp} {a c M : Addr} {n k b : Int} {ms cs mv : List Int} (ha : H a = some (.lst (ms.map V.int))) (hc : H c = some (.lst (cs.map V.int))) (hM : H M = some (.lst (mv.map V.int))) (ok : LotOk n ms) (lc : cs.length = n.toNat) (b0 : 0 ≤ b) (b1 : b < 360) (lm : mv.length ≤ 360) (hmv : k ≠ 4 → mv = moved5 n ms k b)
    (h : ∀ H' v, Ext H H' → DueAt H' v (.inl (n, (ring n).filter (fun h => decide (h ∈ (moved5 n ms k b).map fun m => m % n)), if k = 4 then (ring n).foldl (fun found d => found.set ((d * factorOf n b) % n).toNat (cs[d.toNat]?.getD 0)) cs else cs)) → Q v H') :
    t_l_due_6 K E { nx := fun _ H' => Q .non H', rt := Q } [some (.ref a), some (.ref c), some (.int n), some (.int k), some (.int b), some (.ref M), none, none, none, none, none] H := by
  have n1 := ok.n1
  have n2 := ok.n2
  have hlen := ok.len
  refine ⟨_, rfl, c, _, rfl, .inl (sqL_of hc), fun G hG => ?_⟩
  have x0 : Ext H (upd H G (.lst (cs.map V.int))) := ext_new hG
  by_cases hk : k = 4
  · rw [if_pos hk] at h
    refine ⟨_, rfl, rfl, _, rfl, iteT_of (by simp [hk]) ?_⟩
    refine ⟨_, rfl, a, rfl, ⟨_, sqL_of (x0 _ _ ha)⟩, fun D hD => lcA (fun v => match v with | .int j => .int (j * factorOf n b) | v => v) hD (fun H' x => src_list (sqL_of (x _ _ (x0 _ _ ha)))) (by rw [List.length_map, sizeLine_eq]; omega) ?_ ?_⟩
    · intro x hx H' e R hR
      obtain ⟨i, hi, rfl⟩ := mem_mapI hx
      have := ok.rng i hi
      have fb := factor_bound (b := b) n1 (by omega) b0 (by omega)
      have fb2 : (factorOf n b).natAbs < 2 ^ 200 := Nat.lt_trans fb (by decide)
      exact ⟨_, rfl, _, rfl, _, rfl, n, b, rfl, n1, by omega, b0, by omega, fun H2 x2 => ⟨_, _, rfl, rfl, cmulW (by omega) fb2, hR _ x2⟩⟩
    · intro H1 x1 hD1
      have y1 := x0.trans x1
      have hGv : H1 G = some (.lst (cs.map V.int)) := x1 _ _ upd_same
      have eD : (ms.map V.int).map (fun v => match v with | .int j => V.int (j * factorOf n b) | v => v) = (ms.map fun m => m * factorOf n b).map V.int := by rw [List.map_map, List.map_map]; rfl
      rw [eD] at hD1
      have D0 : H D = none := fr_of x0 hD
      have GD : G ≠ D := fun z => by rw [← z, upd_same] at hD; cases hD
      refine ⟨_, rfl, n, rfl, by omega, by omega, forS (xs := rngV 0 n.toNat) (fun i σ H' => ∃ v : Option V, σ = [some (.ref a), some (.ref c), some (.int n), some (.int k), some (.int b), some (.ref D), some (.ref G), v, none, none, none] ∧ Ext H H' ∧ H' D = some (.lst ((ms.map fun m => m * factorOf n b).map V.int)) ∧ H' G = some (.lst ((((ring n).take i).foldl (fun found d => found.set ((d * factorOf n b) % n).toNat (cs[d.toNat]?.getD 0)) cs).map V.int))) ⟨_, rfl, y1, hD1, hGv⟩ (fun _ _ _ _ _ => src_rng) ?_ ?_⟩
      · rintro i x σ H' e ⟨v, rfl, x2, hD2, hG2⟩
        rw [rng_ring, List.getElem?_map] at e
        cases hw : (ring n)[i]? with
        | none => rw [hw] at e; cases e
        | some d =>
          rw [hw] at e
          cases e
          have hd := mem_ring.mp (List.mem_of_getElem? hw)
          have fb := factor_bound (b := b) n1 (by omega) b0 (by omega)
          have fb2 : (factorOf n b).natAbs < 2 ^ 200 := Nat.lt_trans fb (by decide)
          have r := emod_rng n1 (d * factorOf n b)
          refine ⟨_, rfl, _, rfl, c, _, d, _, rfl, rfl, sqL_of (x2 _ _ hc), atI_getD (d := 0) hd.1 (by omega), ?_⟩
          refine ⟨_, rfl, _, rfl, _, rfl, _, rfl, n, b, rfl, n1, by omega, b0, by omega, fun H3 x3 => ⟨_, _, rfl, rfl, cmulW (by omega) fb2, .inl ⟨_, rfl, _, rfl, _, n, rfl, rfl, by omega, G, _, _, ((d * factorOf n b) % n).toNat, rfl, rfl, x3 _ _ hG2, ?_, ?_⟩⟩⟩
          · rw [List.length_map, fold_len, fmod_pos n1]
            unfold ixN
            rw [if_pos r.1, if_pos (by omega)]
          · refine ⟨_, rfl, ext_set (x2.trans x3) hG, by rw [upd_ne (Ne.symm GD)]; exact x3 _ _ hD2, ?_⟩
            rw [upd_same, List.take_add_one, hw, List.foldl_append, ← List.map_set]
            rfl
      · rintro σ H' ⟨v, rfl, x2, hD2, hG2⟩
        rw [rngV_len, ← ring_len, List.take_length] at hG2
        refine due_tail (E := E) (ms := ms) hD2 hG2 n1 n2 (by rw [List.length_map]; omega) fun H3 v x3 hv => h H3 v (x2.trans x3) ?_
        unfold moved5
        rw [if_neg (by omega), if_neg (by omega), if_pos hk]
        exact hv
  · rw [if_neg hk] at h
    refine ⟨_, rfl, rfl, _, rfl, iteF_of (by simp [hk]) ?_⟩
    exact due_tail (E := E) (ms := ms) (x0 _ _ hM) upd_same n1 n2 lm fun H3 v x3 hv => h H3 v (x0.trans x3) (by rw [← hmv hk]; exact hv)
theorem pure_l_due {K : PySem.W.Frag} (F : KF K) (vs : List V) (H : Hp) (Q : VK) (E : XK) (h : sp_l_due K vs H Q E) : t_l_due K E { nx := fun _ H' => Q .non H', rt := Q } (start ["members", "counts", "n", "kind", "number", "moved", "found", "d", "residues", "h", "count"] vs) H := by
  obtain ⟨a, c, n, k, b, ms, cs, rfl, ha, hc, ok, lc, sm, k0, k1, b0, b1, h⟩ := h
  have n1 := ok.n1
  have n2 := ok.n2
  have hlen := ok.len
  have eb : b.fmod 2 = b % 2 := fmod_pos (by decide) b
  have rb := emod_rng (n := 2) (by decide) b
  unfold due5' at h
  by_cases e5 : k = 5
  · rw [if_pos e5] at h
    refine ⟨_, rfl, rfl, _, rfl, iteT_of (by simp [e5]) ⟨_, rfl, _, rfl, _, rfl, _, rfl, .inl ⟨b, rfl, _, _, rfl, rfl, (by decide : (2 : Int) ≠ 0), _, _, rfl, rfl, a, c, n, 2 + b % 2, ms, cs, by rw [← eb] <;> rfl, ha, hc, ok, lc, sm, by omega, by omega, h⟩⟩⟩
  rw [if_neg e5] at h
  refine ⟨_, rfl, rfl, _, rfl, iteF_of (by simp [e5]) ?_⟩
  by_cases e6 : k = 6
  · rw [if_pos e6] at h
    have pm := parts_mem (b := b) n1
    refine ⟨_, rfl, rfl, _, rfl, iteT_of (by simp [e6]) ⟨_, rfl, _, rfl, _, rfl, _, rfl, _, rfl, n, b, rfl, n1, by omega, fun H2 x2 => ⟨a, c, n, partOf n b, ms, cs, rfl, x2 _ _ ha, x2 _ _ hc, ok, lc, sm, pm.1, pm.2.1, fun H3 v x3 hv => h H3 v (x2.trans x3) hv⟩⟩⟩
  rw [if_neg e6] at h
  refine ⟨_, rfl, rfl, _, rfl, iteF_of (by simp [e6]) ?_⟩
  by_cases e3 : k = 3
  · rw [if_pos e3] at h
    refine ⟨_, rfl, rfl, _, rfl, iteT_of (by simp [e3]) ?_⟩
    refine ⟨_, rfl, _, rfl, n, rfl, by omega, by omega, fun D hD => lcF (xs := rngV 0 n.toNat) (fI fun i => if i ∈ ms then none else some i) hD (fun _ _ => src_rng) (by rw [rngV_len, sizeLine_eq]; omega) ?_ ?_⟩
    · intro x hx H' e R N hR hN
      rw [rng_ring] at hx
      obtain ⟨i, hi, rfl⟩ := mem_mapI hx
      refine ⟨_, rfl, _, rfl, a, _, rfl, .inl (sqL_of (e _ _ ha)), rfl, flat_ints ms, _, rfl, ?_⟩
      rw [inV_ints]
      by_cases hcc : i ∈ ms
      · exact iteF_of (by simp [hcc]) (hN (fI_miss (if_pos hcc)))
      · exact iteT_of (by simp [hcc]) ⟨_, rfl, hR _ (fI_hit (if_neg hcc))⟩
    · rw [rng_ring, fm_fI, fm_notin ms (ring n)]
      generalize hH1 : upd H D (.lst (((ring n).filter fun h => !decide (h ∈ ms)).map V.int)) = H1
      have x1 : Ext H H1 := by rw [← hH1]; exact ext_new hD
      have hD1 : H1 D = some (.lst ((invL n ms).map V.int)) := by rw [← hH1, upd_same]; rfl
      refine ⟨_, rfl, c, rfl, ⟨_, sqL_of (x1 _ _ hc)⟩, fun G hG => lcF (fI fun x => some (x + n - 2 * (ms.length : Nat))) hG (fun H' x => src_list (sqL_of (x _ _ (x1 _ _ hc)))) (by rw [List.length_map, sizeLine_eq]; omega) ?_ ?_⟩
      · intro x hx H' e R N hR hN
        obtain ⟨i, hi, rfl⟩ := mem_mapI hx
        refine ⟨_, rfl, _, rfl, _, _, rfl, rfl, _, rfl, a, _, rfl, .inl (sqL_of (e _ _ (x1 _ _ ha))), _, _, rfl, rfl, cmulW (by decide) (by rw [List.length_map]; omega), _, _, rfl, rfl, hR _ ?_⟩
        rw [List.length_map]
        rfl
      · rw [fm_fI, fm_some]
        have DG : D ≠ G := ne_of_none hD1 hG
        refine ⟨Nat.le_of_ble_eq_true rfl, fun q hq => h _ _ (x1.trans ((ext_new hG).trans (ext_new hq))) ⟨q, D, G, rfl, upd_same, ext_new hq _ _ (by rw [upd_ne DG]; exact hD1), ext_new hq _ _ upd_same⟩⟩
  rw [if_neg e3] at h
  refine ⟨_, rfl, rfl, _, rfl, iteF_of (by simp [e3]) ?_⟩
  refine ⟨_, rfl, a, rfl, ⟨_, sqL_of ha⟩, fun D hD => lcF (fI fun x => some (0 - x)) hD (fun H' x => src_list (sqL_of (x _ _ ha))) (by rw [List.length_map, sizeLine_eq]; omega) ?_ ?_⟩
  · intro x hx H' e R N hR hN
    obtain ⟨i, hi, rfl⟩ := mem_mapI hx
    bv_omega
    exact hR _ rfl
  · rw [fm_fI, fm_some]
    have x1 : Ext H (upd H D (.lst ((ms.map fun x => 0 - x).map V.int))) := ext_new hD
    by_cases e0 : k = 0
    · refine ⟨_, rfl, rfl, _, rfl, iteT_of (by simp [e0]) ?_⟩
      refine ⟨_, rfl, a, rfl, ⟨_, sqL_of (x1 _ _ ha)⟩, fun D2 hD2 => lcF (fI fun x => some (x + shiftOf b)) hD2 (fun H' x => src_list (sqL_of (x _ _ (x1 _ _ ha)))) (by rw [List.length_map, sizeLine_eq]; omega) ?_ ?_⟩
      · intro x hx H' e R N hR hN
        obtain ⟨i, hi, rfl⟩ := mem_mapI hx
        exact ⟨_, rfl, _, rfl, b, rfl, b0, by omega, _, _, rfl, rfl, hR _ rfl⟩
      · rw [fm_fI, fm_some]
        have x2 := x1.trans (ext_new (o := .lst ((ms.map fun x => x + shiftOf b).map V.int)) hD2)
        refine ⟨_, rfl, rfl, _, rfl, iteF_of (by simp [e0]) ?_⟩
        exact due_six (E := E) (x2 _ _ ha) (x2 _ _ hc) upd_same ok lc b0 b1 (by rw [List.length_map]; omega) (fun _ => by unfold moved5; rw [if_pos e0]) fun H3 v x3 hv => h H3 v (x2.trans x3) hv
    · refine ⟨_, rfl, rfl, _, rfl, iteF_of (by simp [e0]) ?_⟩
      by_cases e1 : k = 1
      · refine ⟨_, rfl, rfl, _, rfl, iteT_of (by simp [e1]) ?_⟩
        refine ⟨_, rfl, a, rfl, ⟨_, sqL_of (x1 _ _ ha)⟩, fun D2 hD2 => lcF (fI fun x => some (x - shiftOf b)) hD2 (fun H' x => src_list (sqL_of (x _ _ (x1 _ _ ha)))) (by rw [List.length_map, sizeLine_eq]; omega) ?_ ?_⟩
        · intro x hx H' e R N hR hN
          obtain ⟨i, hi, rfl⟩ := mem_mapI hx
          exact ⟨_, rfl, _, rfl, b, rfl, b0, by omega, _, _, rfl, rfl, hR _ rfl⟩
        · rw [fm_fI, fm_some]
          have x2 := x1.trans (ext_new (o := .lst ((ms.map fun x => x - shiftOf b).map V.int)) hD2)
          exact due_six (E := E) (x2 _ _ ha) (x2 _ _ hc) upd_same ok lc b0 b1 (by rw [List.length_map]; omega) (fun _ => by unfold moved5; rw [if_neg e0, if_pos e1]) fun H3 v x3 hv => h H3 v (x2.trans x3) hv
      · refine ⟨_, rfl, rfl, _, rfl, iteF_of (by simp [e1]) ?_⟩
        exact due_six (E := E) (x1 _ _ ha) (x1 _ _ hc) upd_same ok lc b0 b1 (by rw [List.length_map]; omega) (fun e4 => by unfold moved5; rw [if_neg e0, if_neg e1, if_neg e4]) fun H3 v x3 hv => h H3 v (x1.trans x3) hv
theorem kind_rng {n k b : Int} (k0 : 0 ≤ k) (k1 : k < 7) : 0 ≤ kindOf' n k b ∧ kindOf' n k b < 7 ∧ (kindOf' n k b = 5 → n * (2 + b % 2) ≤ 60) := by
  unfold kindOf'
  by_cases h : k = 5 ∧ n * (2 + b % 2) > 60
  · rw [if_pos h]
    exact ⟨by decide, by decide, fun z => by cases z⟩
  · rw [if_neg h]
    refine ⟨k0, k1, fun z => ?_⟩
    by_cases h2 : n * (2 + b % 2) > 60
    · exact absurd ⟨z, h2⟩ h
    · omega
theorem law5_loop {K : PySem.W.Frag} (F : KF K) {E : XK} {Q : VK} {H : Hp} {a q f g one two cA lot M dd : Addr} {n r : Int} {ws ms0 ms0' ms dl : List Int} {x9 x10 x11 x12 x13 x14 : Option V} (hq : H q = some (.lst (ws.map V.int))) (hf : H f = some (.lst (ms0.map V.int))) (hg : H g = some (.lst (ms0'.map V.int)))
    (L1 : LotAt K H one r ms0) (L2 : LotAt K H two r ms0') (hw : ∃ w, ws[5]? = some w ∧ 0 ≤ w ∧ w < 13) (hdd : H dd = some (.lst (dl.map V.int))) (hdl : ∀ i : Nat, i < 12 → ∃ x y, dl[2 * i]? = some x ∧ dl[2 * i + 1]? = some y ∧ 0 ≤ x ∧ x < 7 ∧ 0 ≤ y ∧ y < 360)
    (L : LotAt K H lot n ms) (hM : H M = some (.lst (ms.map V.int))) (hc : H cA = some (.lst ((countsL n ms).map V.int))) (n60 : n ≤ 60) (h : ∀ H', Q (.bl true) H') :
    t_law_19 K E { nx := fun _ H' => Q .non H', rt := Q } [some (.ref a), some (.ref q), some (.int n), some (.ref f), some (.ref g), some (.int r), some (.ref one), some (.ref two), some (.ref cA), x9, x10, x11, x12, x13, x14, some (.ref lot), some (.ref M), some (.ref dd), none, none, none, none] H := by
  obtain ⟨w, ew, w0, w1⟩ := hw
  refine ⟨_, rfl, q, _, 5, _, rfl, rfl, sqL_of hq, atI_nat (k := 5) rfl (map_get ew), w, rfl, by omega, by omega, forS (xs := rngV 0 w.toNat) (fun i σ H' => ∃ (cA lot M : Addr) (n : Int) (ms : List Int) (x14 x18 x19 x20 : Option V), σ = [some (.ref a), some (.ref q), some (.int n), some (.ref f), some (.ref g), some (.int r), some (.ref one), some (.ref two), some (.ref cA), x9, x10, x11, x12, x13, x14, some (.ref lot), some (.ref M), some (.ref dd), x18, x19, x20, none] ∧
    Ext H H' ∧ LotAt K H' lot n ms ∧ H' M = some (.lst (ms.map V.int)) ∧ H' cA = some (.lst ((countsL n ms).map V.int)) ∧ n ≤ 60) ⟨cA, lot, M, n, ms, _, _, _, _, rfl, Ext.refl _, L, hM, hc, n60⟩ (fun _ _ _ _ _ => src_rng) ?_ ?_⟩
  · clear L hM hc n60
    rintro i x σ H' e ⟨cA, lot, M, n, ms, x14, x18, x19, x20, rfl, x1, L, hM, hc, n60⟩
    rw [rngV_get] at e
    by_cases hi : i < w.toNat
    · rw [if_pos hi] at e
      cases e
      obtain ⟨dk, nb, g1, g2, k0, k1, b0, b1⟩ := hdl i (by omega)
      have ok := L.1
      have n1 := ok.n1
      have hdd1 := x1 _ _ hdd
      have at1 : atI (dl.map V.int) (2 * (0 + (i : Int))) = some (.int dk) := atI_nat (k := 2 * i) (by omega) (map_get g1)
      have at2 : atI (dl.map V.int) (2 * (0 + (i : Int)) + 1) = some (.int nb) := atI_nat (k := 2 * i + 1) (by omega) (map_get g2)
      have cm : CMulW 2 (0 + (i : Int)) := cmulW (by decide) (by omega)
      obtain ⟨q0, q1, q5⟩ := kind_rng (n := n) (b := nb) k0 k1
      refine ⟨_, rfl, _, rfl, _, rfl, _, _, rfl, rfl, cm, dd, _, _, _, rfl, rfl, sqL_of hdd1, at1, _, rfl, _, rfl, _, _, rfl, rfl, cm, _, _, rfl, rfl, dd, _, _, _, rfl, rfl, sqL_of hdd1, at2, n, dk, nb, rfl, n1, by omega, ?_⟩
      generalize kindOf' n dk nb = k at q0 q1 q5
      refine ⟨_, rfl, _, rfl, _, rfl, _, rfl, _, rfl, _, _, rfl, rfl, cm, _, _, rfl, rfl, dd, _, _, _, rfl, rfl, sqL_of hdd1, at2, lot, n, k, nb, ms, rfl, L, q0, q1, b0, b1, fun z => by have := q5 z; omega, fun H1 told y1 ht => ?_⟩
      have hdd2 := y1 _ _ hdd1
      refine ⟨_, rfl, _, rfl, _, rfl, _, rfl, _, rfl, _, rfl, _, _, rfl, rfl, cm, _, _, rfl, rfl, dd, _, _, _, rfl, rfl, sqL_of hdd2, at2, M, cA, n, k, nb, ms, countsL n ms, rfl, y1 _ _ hM, y1 _ _ hc, ok, counts_len n ms, counts_small ok, q0, q1, b0, b1, fun H2 due y2 hdue => ?_⟩
      have z2 := (x1.trans y1).trans y2
      have z12 := y1.trans y2
      rcases due_deed (b := nb) ok q0 q1 (fun z => by have := q5 z; omega) with ⟨m, e1, e2⟩ | ⟨n', ms', e1, ok', hle, e2⟩
      · rw [e1] at ht
        rw [e2] at hdue
        have ht : Dn H1 1 told (.tuple [.str "Meets", .int m]) := ht
        have hdue : Dn H2 1 due (.tuple [.str "Meets", .int m]) := hdue
        have hdue' := hdue
        cases hdue' with
        | @tup _ t xs _ et lt rt =>
          have lx := dnAll_len rt
          refine ⟨_, rfl, t, xs, rfl, .inr (sqT_of et), rfl, _, rfl, iteT_of (by rw [lx]; rfl) ?_⟩
          refine (show ∀ R : Bool → Hp → Prop, (∀ H3, Ext H2 H3 → R false H3) → tOr (tNot (tB (tC1 (sp_l_same 1 K) (wE E) (tCons (tVar 14) (tCons (tVar 20) tNil))))) (tNot (tB (tC1 (sp_l_is_lot K) (wE E) (tCons (tVar 15) (tCons (tVar 2) (tCons (tVar 16) tNil)))))) _ H2 R from KB.orF (KB.not (KV.test (KV.of fun R r => ⟨_, rfl, _, rfl, _, _, _, rfl, ht.ext y2, hdue, r⟩)) rfl) fun H3 x3 => KB.not (KV.test fun R r => ⟨_, rfl, _, rfl, _, rfl, lot, M, n, ms, rfl, (L.ext z12).ext x3, x3 _ _ (z12 _ _ hM), r⟩) rfl) _ fun H3 x3 => iteF ?_
          exact ⟨cA, lot, M, n, ms, _, _, _, _, rfl, z2.trans x3, (L.ext z12).ext x3, x3 _ _ (z12 _ _ hM), x3 _ _ (z12 _ _ hc), n60⟩
      · rw [e1] at ht
        rw [e2] at hdue
        obtain ⟨la, rfl, L'⟩ := ht
        obtain ⟨p, x, y, rfl, hp, hx, hy⟩ := hdue
        have L2' := L'.ext y2
        refine ⟨_, rfl, p, _, rfl, .inr (sqT_of hp), rfl, _, rfl, iteF_of rfl ?_⟩
        refine ⟨_, rfl, p, _, rfl, sqT_of hp, rfl, _, _, rfl, _, _, rfl, _, _, rfl, rfl, ?_⟩
        have len1 : ((countsL n' ms').map V.int).length ≤ 200000 := by rw [List.length_map, counts_len]; have := ok'.n2; omega
        refine (show ∀ R : Bool → Hp → Prop, (∀ H3, Ext H2 H3 → R false H3) → tOr (tNot (tB (tC1 (sp_l_is_lot K) (wE E) (tCons (tVar 14) (tCons (tVar 2) (tCons (tVar 16) tNil)))))) (tNot (tB (tC1 (sp_l_same 1 K) (wE E) (tCons (tC1 (sp_differences K) (wE E) (tCons (tVar 14) tNil)) (tCons (tVar 8) tNil))))) _ H2 R from KB.orF (KB.not (KV.test fun R r => ⟨_, rfl, _, rfl, _, rfl, la, x, n', ms', rfl, L2', hx, r⟩) rfl) fun H3 x3 => KB.not (KV.test fun R r => ⟨_, rfl, la, n', ms', rfl, L2'.ext x3, fun H4 u x4 hu => ⟨_, rfl, _, _, .list ((countsL n' ms').map PyData.int), rfl, by rw [meet_counts ok'] at hu; exact .lst hu len1 (dnInts _ _ _), .lst (x4 _ _ (x3 _ _ hy)) len1 (dnInts _ _ _), r H4 x4⟩⟩) rfl) _ fun H3 x3 => iteF ?_
        refine ⟨_, rfl, y, la, x, n', ms', _, _, _, _, rfl, z2.trans x3, L2'.ext x3, x3 _ _ hx, x3 _ _ hy, ?_⟩
        by_cases k5 : k = 5
        · rw [if_pos k5] at hle
          have := q5 k5
          omega
        · rw [if_neg k5] at hle
          omega
    · rw [if_neg hi] at e
      cases e
  · clear L hM hc n60
    rintro σ H' ⟨cA, lot, M, n, ms, x14, x18, x19, x20, rfl, x1, L, hM, hc, n60⟩
    exact ⟨_, rfl, _, rfl, _, rfl, one, f, r, ms0, rfl, L1.ext x1, x1 _ _ hf, fun H6 y6 => ⟨true, rfl, iteT ⟨_, rfl, _, rfl, _, rfl, two, g, r, ms0', rfl, L2.ext (x1.trans y6), (x1.trans y6) _ _ hg, fun H7 _ => h H7⟩⟩⟩
theorem law5_18 {K : PySem.W.Frag} (F : KF K) {E : XK} {Q : VK} {H : Hp} {a q f g one two cA lot M : Addr} {n r : Int} {ns ws ms0 ms0' ms : List Int} {x9 x10 x11 x12 x13 x14 : Option V} (hS : SqL K H a (ns.map V.int)) (hq : H q = some (.lst (ws.map V.int))) (hf : H f = some (.lst (ms0.map V.int))) (hg : H g = some (.lst (ms0'.map V.int)))
    (L1 : LotAt K H one r ms0) (L2 : LotAt K H two r ms0') (hw : ∃ w, ws[5]? = some w ∧ 0 ≤ w ∧ w < 13)
    (L : LotAt K H lot n ms) (hM : H M = some (.lst (ms.map V.int))) (hc : H cA = some (.lst ((countsL n ms).map V.int))) (n60 : n ≤ 60) (h : ∀ H', Q (.bl true) H') :
    t_law_18 K E { nx := fun _ H' => Q .non H', rt := Q } [some (.ref a), some (.ref q), some (.int n), some (.ref f), some (.ref g), some (.int r), some (.ref one), some (.ref two), some (.ref cA), x9, x10, x11, x12, x13, x14, some (.ref lot), some (.ref M), none, none, none, none, none] H := by
  refine ⟨_, rfl, a, ns, 3, rfl, hS, fun r0 r00 => ⟨Nat.le_of_ble_eq_true rfl, fun p hp => ⟨p, 12, _, rfl, rfl, upd_same, by decide, by decide, by decide, fun m hm => ?_⟩⟩⟩
  have m0 := fr_of (ext_new hp) hm
  have x1 := ext_set (o := .lst (List.replicate (Int.toNat 12) [V.int 7, V.int 360]).flatten) (ext_new (o := .lst [V.int 7, V.int 360]) hp) m0
  refine ⟨r0, 2086, m, (List.replicate 12 [7, 360]).flatten, rfl, r00, by decide, by decide, sqL_of (by rw [upd_same]; rfl), by decide, by decide, fun H1 dd dl x2 _ hdd hl hb => ?_⟩
  have y := x1.trans x2
  refine law5_loop F (y _ _ hq) (y _ _ hf) (y _ _ hg) (L1.ext y) (L2.ext y) hw hdd (fun i hi => ?_) (L.ext y) (y _ _ hM) (y _ _ hc) n60 h
  have hlen : dl.length = 24 := hl
  have e := (by decide : ∀ i : Nat, i < 12 → ((List.replicate 12 [(7 : Int), 360]).flatten)[2 * i]? = some 7 ∧ ((List.replicate 12 [(7 : Int), 360]).flatten)[2 * i + 1]? = some 360) i hi
  have g1 : dl[2 * i]? = some (dl[2 * i]'(by omega)) := List.getElem?_eq_getElem _
  have g2 : dl[2 * i + 1]? = some (dl[2 * i + 1]'(by omega)) := List.getElem?_eq_getElem _
  have b1 := hb _ _ _ g1 e.1
  have b2 := hb _ _ _ g2 e.2
  exact ⟨_, _, g1, g2, b1.1, b1.2, b2.1, b2.2⟩
theorem law5_ten {K : PySem.W.Frag} (F : KF K) {E : XK} {Q : VK} {H : Hp} {a q f g one two cA oB : Addr} {n : Int} {ns ws ms ms' : List Int} (hS : SqL K H a (ns.map V.int)) (hq : H q = some (.lst (ws.map V.int))) (hf : H f = some (.lst (ms.map V.int))) (hg : H g = some (.lst (ms'.map V.int)))
    (L1 : LotAt K H one n ms) (L2 : LotAt K H two n ms') (hw : ∃ w, ws[5]? = some w ∧ 0 ≤ w ∧ w < 13) (hc : H cA = some (.lst ((countsL n ms).map V.int))) (ho : H oB = some (.lst ((countsL n ms').map V.int))) (n60 : n ≤ 60) (h : ∀ H', Q (.bl true) H') :
    t_law_10 K E { nx := fun _ H' => Q .non H', rt := Q } [some (.ref a), some (.ref q), some (.int n), some (.ref f), some (.ref g), some (.int n), some (.ref one), some (.ref two), some (.ref cA), some (.ref oB), none, none, none, none, none, none, none, none, none, none, none, none] H := by
  have ok := L1.1
  have ok' := L2.1
  have n1 := ok.n1
  have n2 := ok.n2
  have hlen := ok.len
  have hlen' := ok'.len
  have hrr : ∀ r ∈ ms.flatMap (fun a => ms'.map fun b => (a + b) % n), 0 ≤ r ∧ r < n := fun r hr => by
    obtain ⟨i, _, hr⟩ := List.mem_flatMap.mp hr
    obtain ⟨k, _, rfl⟩ := List.mem_map.mp hr
    exact emod_rng n1 _
  refine ⟨Nat.zero_le _, fun z hz => ?_⟩
  have x0 : Ext H (upd H z (.lst [])) := ext_new hz
  refine ⟨_, rfl, f, rfl, ⟨_, sqL_of (x0 _ _ hf)⟩, forS (xs := ms.map V.int) (fun i σ H' => ∃ v : Option V, σ = [some (.ref a), some (.ref q), some (.int n), some (.ref f), some (.ref g), some (.int n), some (.ref one), some (.ref two), some (.ref cA), some (.ref oB), some (.ref z), v, none, none, none, none, none, none, none, none, none, none] ∧ Ext H H' ∧ H' z = some (.lst (((ms.take i).flatMap fun a => ms'.map fun b => (a + b) % n).map V.int))) ⟨_, rfl, x0, upd_same⟩ (fun i σ H' _ ⟨v, e, x1, _⟩ => src_list (sqL_of (x1 _ _ hf))) ?_ ?_⟩
  · rintro i x σ H' e ⟨v, rfl, x1, hz1⟩
    rw [List.getElem?_map] at e
    cases hw : ms[i]? with
    | none => rw [hw] at e; cases e
    | some w =>
      rw [hw] at e
      cases e
      refine ⟨_, rfl, tyL hz1, _, rfl, g, rfl, ⟨_, sqL_of (x1 _ _ hg)⟩, fun D hD => lcF (fI fun j => some ((w + j) % n)) hD (fun H3 x3 => src_list (sqL_of (x3 _ _ (x1 _ _ hg)))) (by rw [List.length_map, sizeLine_eq]; omega) ?_ ?_⟩
      · intro x hx H3 e3 R N hR hN
        obtain ⟨j, hj, rfl⟩ := mem_mapI hx
        bv_omega
        refine ⟨by omega, ?_⟩
        rw [fmod_pos n1]
        exact hR _ rfl
      · rw [fm_fI, fm_some]
        have zD : z ≠ D := ne_of_none hz1 hD
        have lens : ((ms.take i).flatMap fun a => ms'.map fun b => (a + b) % n).length ≤ 360 * 360 := by
          have := fl_len (F := fun a => ms'.map fun b => (a + b) % n) (xs := ms.take i) (b := 360) fun x _ => by rw [List.length_map]; exact hlen'
          have l2 : (ms.take i).length ≤ 360 := by rw [List.length_take]; omega
          exact Nat.le_trans this (Nat.mul_le_mul_right 360 l2)
        refine ⟨z, D, _, _, rfl, rfl, by rw [upd_ne zD]; exact hz1, upd_same, by simp only [List.length_map]; rw [sizeLine_eq]; omega, _, rfl, ext_set (ext_set x1 (fr_of x1 hD)) hz, ?_⟩
        rw [upd_same, List.take_add_one, hw]
        simp
  · rintro σ H1 ⟨v, rfl, x1, hz1⟩
    rw [List.length_map, List.take_length] at hz1
    refine ⟨_, rfl, _, rfl, z, n, _, rfl, sqL_of hz1, by omega, by omega, hrr, fun H2 p y2 hp => ?_⟩
    have x2 := x1.trans y2
    refine ⟨_, rfl, n, rfl, by omega, by omega, fun T hT => lcF (xs := rngV 0 n.toNat) (fI fun i => if 1 < (ms.flatMap fun a => ms'.map fun b => (a + b) % n).count i then some i else none) hT (fun _ _ => src_rng) (by rw [rngV_len, sizeLine_eq]; omega) ?_ ?_⟩
    · intro x hx H' e R N hR hN
      rw [rng_ring] at hx
      obtain ⟨i, hi, rfl⟩ := mem_mapI hx
      have hi' := mem_ring.mp hi
      refine ⟨_, rfl, _, rfl, p, _, i, _, rfl, rfl, sqL_of (e _ _ hp), atI_nat (k := i.toNat) (by omega) (map_get (tally_at hi'.1 hi'.2)), _, _, rfl, rfl, _, rfl, ?_⟩
      by_cases hcc : 1 < (ms.flatMap fun a => ms'.map fun b => (a + b) % n).count i
      · exact iteT_of (decide_eq_true (by omega)) ⟨_, rfl, hR _ (fI_hit (if_pos hcc))⟩
      · exact iteF_of (decide_eq_false (by omega)) (hN (fI_miss (if_neg hcc)))
    · rw [rng_ring, fm_fI, fm_if]
      generalize hH3 : upd H2 T (.lst (((ring n).filter fun i => decide (1 < (ms.flatMap fun a => ms'.map fun b => (a + b) % n).count i)).map V.int)) = H3
      have y3 : Ext H2 H3 := by rw [← hH3]; exact ext_new hT
      have hT3 : H3 T = some (.lst (((ring n).filter fun i => decide (1 < (ms.flatMap fun a => ms'.map fun b => (a + b) % n).count i)).map V.int)) := by rw [← hH3, upd_same]
      have x3 := x2.trans y3
      have hp3 := y3 _ _ hp
      have tw := twice_ring hrr
      refine ⟨_, rfl, _, rfl, one, two, n, ms, ms', rfl, L1.ext x3, L2.ext x3, fun H4 told y4 ht => ?_⟩
      have x4 := x3.trans y4
      have hT4 := y4 _ _ hT3
      have hp4 := y4 _ _ hp3
      refine ⟨_, rfl, _, rfl, ?_⟩
      unfold addOut onceOut at ht
      rw [if_pos rfl] at ht
      refine ⟨_, rfl, T, _, rfl, .inl (sqL_of hT4), _, _, rfl, rfl, _, rfl, ?_⟩
      dsimp only
      rw [List.length_map]
      cases e : (ring n).filter fun i => decide (1 < (ms.flatMap fun a => ms'.map fun b => (a + b) % n).count i) with
      | cons u r =>
        rw [e] at tw hT4
        have tw : rep (ms.flatMap fun a => ms'.map fun b => (a + b) % n) = some u := tw
        rw [tw] at ht
        have ht : Dn H4 1 told (.tuple [.str "Meets", .int u]) := ht
        refine iteT_of (by simp) ?_
        refine (show ∀ R : Bool → Hp → Prop, (∀ H5, Ext H4 H5 → R false H5) → tNot (tB (tC1 (sp_l_same 1 K) (wE E) (tCons (tVar 14) (tCons (tTup (tCons (tC (.str "Meets")) (tCons (tOp (rIxL K) (tVar 13) (tC (.int 0))) tNil))) tNil)))) _ H4 R from KB.not (KV.test fun R r => ⟨_, rfl, _, rfl, T, _, 0, .int u, rfl, rfl, sqL_of hT4, atI_nat (k := 0) rfl rfl, Nat.le_of_ble_eq_true rfl, fun d hd => ⟨_, _, _, rfl, ht.ext (ext_new hd), .tup upd_same (Nat.le_of_ble_eq_true rfl) (.cons (.str _ _) (.cons (.int _ _) (.nil _))), r _ (ext_new hd)⟩⟩) rfl) _ fun H5 x5 => iteF ?_
        have x6 := x4.trans x5
        exact law5_18 F (sqL_ext x6 hS) (x6 _ _ hq) (x6 _ _ hf) (x6 _ _ hg) (L1.ext x6) (L2.ext x6) hw (L1.ext x6) (x6 _ _ hf) (x6 _ _ hc) n60 h
      | nil =>
        rw [e] at tw
        have tw : rep (ms.flatMap fun a => ms'.map fun b => (a + b) % n) = none := tw
        rw [tw] at ht
        obtain ⟨la, rfl, L⟩ := ht
        refine iteF_of (by simp) ?_
        refine ⟨_, rfl, n, rfl, by omega, by omega, fun U hU => lcF (xs := rngV 0 n.toNat) (fI fun i => if (ms.flatMap fun a => ms'.map fun b => (a + b) % n).count i = 1 then some i else none) hU (fun _ _ => src_rng) (by rw [rngV_len, sizeLine_eq]; omega) ?_ ?_⟩
        · intro x hx H' e R N hR hN
          rw [rng_ring] at hx
          obtain ⟨i, hi, rfl⟩ := mem_mapI hx
          have hi' := mem_ring.mp hi
          refine ⟨_, rfl, _, rfl, p, _, i, _, rfl, rfl, sqL_of (e _ _ hp4), atI_nat (k := i.toNat) (by omega) (map_get (tally_at hi'.1 hi'.2)), rfl, _, rfl, ?_⟩
          by_cases hcc : (ms.flatMap fun a => ms'.map fun b => (a + b) % n).count i = 1
          · exact iteT_of (by rw [hcc]; rfl) ⟨_, rfl, hR _ (fI_hit (if_pos hcc))⟩
          · exact iteF_of (by simp; omega) (hN (fI_miss (if_neg hcc)))
        · rw [rng_ring, fm_fI, fm_if, once_ring hrr tw]
          generalize hH5 : upd H4 U (.lst ((srt (ms.flatMap fun a => ms'.map fun b => (a + b) % n)).map V.int)) = H5
          have y5 : Ext H4 H5 := by rw [← hH5]; exact ext_new hU
          have hU5 : H5 U = some (.lst ((srt (ms.flatMap fun a => ms'.map fun b => (a + b) % n)).map V.int)) := by rw [← hH5, upd_same]
          have x5 := x4.trans y5
          have L5 := L.ext y5
          have okS := L.1
          refine ⟨_, rfl, _, rfl, _, rfl, cA, oB, n, countsL n ms, countsL n ms', rfl, x5 _ _ hc, x5 _ _ ho, n1, by omega, counts_len n ms, counts_len n ms', counts_small ok, counts_small ok', fun H6 cN y6 hcN => ?_⟩
          rw [sum_counts ok ok' tw] at hcN
          have x6 := x5.trans y6
          have len1 : ((countsL n (srt (ms.flatMap fun a => ms'.map fun b => (a + b) % n))).map V.int).length ≤ 200000 := by rw [List.length_map, counts_len]; omega
          refine (show ∀ R : Bool → Hp → Prop, (∀ H7, Ext H6 H7 → R false H7) → tOr (tNot (tB (tC1 (sp_l_is_lot K) (wE E) (tCons (tVar 14) (tCons (tVar 2) (tCons (tVar 16) tNil)))))) (tNot (tB (tC1 (sp_l_same 1 K) (wE E) (tCons (tC1 (sp_differences K) (wE E) (tCons (tVar 14) tNil)) (tCons (tVar 8) tNil))))) _ H6 R from KB.orF (KB.not (KV.test fun R r => ⟨_, rfl, _, rfl, _, rfl, la, U, n, _, rfl, L5.ext y6, y6 _ _ hU5, r⟩) rfl) fun H7 x7 => KB.not (KV.test fun R r => ⟨_, rfl, la, n, _, rfl, (L5.ext y6).ext x7, fun H8 u x8 hu => ⟨_, rfl, _, _, .list ((countsL n (srt (ms.flatMap fun a => ms'.map fun b => (a + b) % n))).map PyData.int), rfl, by rw [meet_counts okS] at hu; exact .lst hu len1 (dnInts _ _ _), .lst (x8 _ _ (x7 _ _ hcN)) len1 (dnInts _ _ _), r H8 x8⟩⟩) rfl) _ fun H7 x7 => iteF ?_
          have x8 := x6.trans x7
          exact ⟨_, rfl, law5_18 F (sqL_ext x8 hS) (x8 _ _ hq) (x8 _ _ hf) (x8 _ _ hg) (L1.ext x8) (L2.ext x8) hw ((L5.ext y6).ext x7) (x7 _ _ (y6 _ _ hU5)) (x7 _ _ hcN) n60 h⟩
theorem law5_three {K : PySem.W.Frag} (F : KF K) {E : XK} {Q : VK} {H : Hp} {a q : Addr} {n : Int} {ns ws : List Int} (hS : SqL K H a (ns.map V.int)) (hq : H q = some (.lst (ws.map V.int))) (hw : ∃ w0 w1 w2 w3 w4 w, ws = [w0, w1, w2, w3, w4, w] ∧ 0 ≤ w ∧ w < 13) (n1 : 1 ≤ n) (n60 : n ≤ 60) (h : ∀ H', Q (.bl true) H') :
    t_law_3 K E { nx := fun _ H' => Q .non H', rt := Q } [some (.ref a), some (.ref q), some (.int n), none, none, none, none, none, none, none, none, none, none, none, none, none, none, none, none, none, none, none] H := by
  obtain ⟨w0, w1, w2, w3, w4, w, rfl, b0, b1⟩ := hw
  refine ⟨_, rfl, _, rfl, _, rfl, q, _, 3, _, rfl, rfl, sqL_of hq, rfl, _, rfl, q, _, 4, _, rfl, rfl, sqL_of hq, rfl, a, ns, n, w3, w4, rfl, hS, n1, by omega, fun H1 p f g ms ms' x1 hp hf hg r1 r2 => ?_⟩
  have ok : LotOk n ms := ⟨n1, by omega, r1.1, r1.2⟩
  have ok' : LotOk n ms' := ⟨n1, by omega, r2.1, r2.2⟩
  have l1 := ok.len
  have l2 := ok'.len
  have e1 : ms.map (fun m => m % n) = ms := mod_id ok.rng
  have e2 : ms'.map (fun m => m % n) = ms' := mod_id ok'.rng
  refine ⟨p, _, rfl, sqT_of hp, rfl, _, _, rfl, _, _, rfl, rfl, ?_⟩
  refine ⟨_, rfl, _, rfl, _, rfl, f, _, rfl, .inl (sqL_of hf), fun l hl => ?_⟩
  have x2 : Ext H1 (upd H1 l (.lst (ms.map V.int))) := ext_new hl
  refine fun x dx hx hdx hne => made_lot (Qx := fun one H2 => gName 6 (.ref one) _ H2 _) (H1 := upd H1 l (.lst (ms.map V.int))) (l := l) (ms := ms) (sqL_of upd_same) n1 (by omega) (by omega) (by rw [e1]; exact lt_nodup ok.asc) (fun H2 one x3 L1 => ?_) x dx hx hdx hne
  rw [e1, srt_of_le (lt_le ok.asc)] at L1
  have x4 := x2.trans x3
  refine ⟨_, rfl, _, rfl, g, _, rfl, .inl (sqL_of (x4 _ _ hg)), fun l' hl' => ?_⟩
  have x5 : Ext H2 (upd H2 l' (.lst (ms'.map V.int))) := ext_new hl'
  refine fun x dx hx hdx hne => made_lot (Qx := fun two H3 => gName 7 (.ref two) _ H3 _) (H1 := upd H2 l' (.lst (ms'.map V.int))) (l := l') (ms := ms') (sqL_of upd_same) n1 (by omega) (by omega) (by rw [e2]; exact lt_nodup ok'.asc) (fun H3 two x6 L2 => ?_) x dx hx hdx hne
  rw [e2, srt_of_le (lt_le ok'.asc)] at L2
  have x7 := x5.trans x6
  have x47 := x4.trans x7
  refine ⟨_, rfl, _, rfl, f, n, ms, rfl, x47 _ _ hf, ok, fun H4 cA x8 hc => ?_⟩
  refine ⟨_, rfl, _, rfl, g, n, ms', rfl, x8 _ _ (x47 _ _ hg), ok', fun H5 oB x9 ho => ?_⟩
  have y5 := x8.trans x9
  have L1' := (L1.ext x7).ext y5
  have L2' := L2.ext y5
  have hc5 := x9 _ _ hc
  have len1 : ((countsL n ms).map V.int).length ≤ 200000 := by rw [List.length_map, counts_len]; omega
  have len2 : ((countsL n ms').map V.int).length ≤ 200000 := by rw [List.length_map, counts_len]; omega
  refine (show ∀ R : Bool → Hp → Prop, (∀ H6, Ext H5 H6 → R false H6) → tOr (tNot (tB (tC1 (sp_l_same 1 K) (wE E) (tCons (tC1 (sp_differences K) (wE E) (tCons (tVar 6) tNil)) (tCons (tVar 8) tNil))))) (tNot (tB (tC1 (sp_l_same 1 K) (wE E) (tCons (tC1 (sp_differences K) (wE E) (tCons (tVar 7) tNil)) (tCons (tVar 9) tNil))))) [some (.ref a), some (.ref q), some (.int n), some (.ref f), some (.ref g), some (.int n), some (.ref one), some (.ref two), some (.ref cA), some (.ref oB), none, none, none, none, none, none, none, none, none, none, none, none] H5 R from KB.orF (KB.not (KV.test fun R r => ⟨_, rfl, one, n, ms, rfl, L1', fun H6 u x hu => ⟨_, rfl, _, _, .list ((countsL n ms).map PyData.int), rfl, by rw [meet_counts ok] at hu; exact .lst hu len1 (dnInts _ _ _), .lst (x _ _ hc5) len1 (dnInts _ _ _), r H6 x⟩⟩) rfl) fun H6 x => KB.not (KV.test fun R r => ⟨_, rfl, two, n, ms', rfl, L2'.ext x, fun H7 u x' hu => ⟨_, rfl, _, _, .list ((countsL n ms').map PyData.int), rfl, by rw [meet_counts ok'] at hu; exact .lst hu len2 (dnInts _ _ _), .lst (x' _ _ (x _ _ ho)) len2 (dnInts _ _ _), r H7 x'⟩⟩) rfl) _ fun H6 x => iteF ?_
  have z := ((x1.trans x47).trans y5).trans x
  have z1 := (x47.trans y5).trans x
  exact law5_ten F (sqL_ext z hS) (z _ _ hq) (z1 _ _ hf) (z1 _ _ hg) (L1'.ext x) (L2'.ext x) ⟨w, rfl, b0, b1⟩ (x _ _ hc5) (x _ _ ho) n60 h
theorem pure_law {K : PySem.W.Frag} (F : KF K) (vs : List V) (H : Hp) (Q : VK) (E : XK) (h : sp_law K vs H Q E) : t_law K E { nx := fun _ H' => Q .non H', rt := Q } (start ["script", "ways", "n", "first", "second", "ring", "one", "two", "counts", "others", "sums", "h", "met", "twice", "told", "lot", "members", "deeds", "k", "kind", "due", "other"] vs) H := by
  obtain ⟨a, ns, rfl, hS, h⟩ := h
  unfold t_law
  refine ⟨_, rfl, a, ns, 0, rfl, hS, fun r r0 => ⟨Nat.le_of_ble_eq_true rfl, fun p hp => ?_⟩⟩
  refine ⟨r, 9141, p, [8, 24, 60, 24, 2, 13], rfl, r0, by decide, by decide, sqL_of upd_same, by decide, by decide, fun H1 q ws x1 _ hq hl hb => ?_⟩
  have y1 : Ext H H1 := (ext_new hp).trans x1
  match ws, hl with
  | [w0, w1, w2, w3, w4, w5], _ =>
  have b1 := hb 1 w1 24 rfl rfl
  have b2 := hb 2 w2 60 rfl rfl
  have b5 := hb 5 w5 13 rfl rfl
  refine ⟨_, rfl, q, _, 1, _, rfl, rfl, sqL_of hq, rfl, _, _, rfl, rfl, ?_⟩
  by_cases hw : w0 = 0
  · refine ⟨_, rfl, q, _, 0, _, rfl, rfl, sqL_of hq, rfl, rfl, _, rfl, iteT_of (by simp [hw]) ⟨_, rfl, q, _, 2, _, rfl, rfl, sqL_of hq, rfl, _, _, rfl, rfl, ?_⟩⟩
    exact law5_three F (sqL_ext y1 hS) hq ⟨_, _, _, _, _, _, rfl, b5.1, b5.2⟩ (by omega) (by omega) h
  · refine ⟨_, rfl, q, _, 0, _, rfl, rfl, sqL_of hq, rfl, rfl, _, rfl, iteF_of (by simp [hw]) ?_⟩
    exact law5_three F (sqL_ext y1 hS) hq ⟨_, _, _, _, _, _, rfl, b5.1, b5.2⟩ (by omega) (by omega) h
end Bw

namespace K05
open PySem PySem.Spec PyProof.Rows L2 Bw
abbrev Pg : Program := PySem.Challenge.pw_beatswatched_k05_whole_differences
def top (i : Nat) : Stmt := Pg.main.body.getD i (.Pass ⟨0, 0, 0, 0⟩)
def theFile : PySem.Str := Pg.main.file
def d_hours_checked : DX := ⟨fun K => (He.ga K "hours_checked"), "hours_checked", "hours_checked", top 9, []⟩
def d_rings_checked : DX := ⟨fun K => (He.ga K "rings_checked"), "rings_checked", "rings_checked", top 10, []⟩
def d_each_once : DX := ⟨fun K => (He.ga K "each_once"), "each_once", "each_once", top 16, []⟩
def d_Lot_init : DX := ⟨fun K => (He.ma K (He.ga K "Lot") "__init__"), "__init__", "Lot.__init__", inClass (top 17) 1, []⟩
def d_Lot_members : DX := ⟨fun K => (getter K (He.ga K "Lot") "members"), "members", "Lot.members", inClass (top 17) 3, []⟩
def d_Lot_lshift : DX := ⟨fun K => (He.ma K (He.ga K "Lot") "__lshift__"), "__lshift__", "Lot.__lshift__", inClass (top 17) 10, []⟩
def d_Lot_rshift : DX := ⟨fun K => (He.ma K (He.ga K "Lot") "__rshift__"), "__rshift__", "Lot.__rshift__", inClass (top 17) 11, []⟩
def d_Lot_neg : DX := ⟨fun K => (He.ma K (He.ga K "Lot") "__neg__"), "__neg__", "Lot.__neg__", inClass (top 17) 12, []⟩
def d_Lot_invert : DX := ⟨fun K => (He.ma K (He.ga K "Lot") "__invert__"), "__invert__", "Lot.__invert__", inClass (top 17) 13, []⟩
def d_Lot_mul : DX := ⟨fun K => (He.ma K (He.ga K "Lot") "__mul__"), "__mul__", "Lot.__mul__", inClass (top 17) 16, []⟩
def d_Lot_rmul : DX := ⟨fun K => (He.ma K (He.ga K "Lot") "__rmul__"), "__rmul__", "Lot.__rmul__", inClass (top 17) 17, []⟩
def d_Lot_add : DX := ⟨fun K => (He.ma K (He.ga K "Lot") "__add__"), "__add__", "Lot.__add__", inClass (top 17) 18, []⟩
def d_Lot_mod : DX := ⟨fun K => (He.ma K (He.ga K "Lot") "__mod__"), "__mod__", "Lot.__mod__", inClass (top 17) 19, []⟩
def d_Lot_pow : DX := ⟨fun K => (He.ma K (He.ga K "Lot") "__pow__"), "__pow__", "Lot.__pow__", inClass (top 17) 20, []⟩
def d_meetings : DX := ⟨fun K => (He.ga K "meetings"), "meetings", "meetings", top 12, []⟩
def d_differences : DX := ⟨fun K => (He.ga K "differences"), "differences", "differences", top 13, []⟩
def d_l_cell : DX := ⟨fun K => (He.ga K "_law_cell"), "_law_cell", "_law_cell", top 19, []⟩
def d_l_draws : DX := ⟨fun K => (He.ga K "_law_draws"), "_law_draws", "_law_draws", top 20, []⟩
def d_l_is_int : DX := ⟨fun K => (He.ga K "_law_is_int"), "_law_is_int", "_law_is_int", top 21, []⟩
def d_l_same : DX := ⟨fun K => (He.ga K "_law_same"), "_law_same", "_law_same", top 22, []⟩
def d_l_bits : DX := ⟨fun K => (He.ga K "_law_bits"), "_law_bits", "_law_bits", top 23, []⟩
def d_l_subset : DX := ⟨fun K => (He.ga K "_law_subset"), "_law_subset", "_law_subset", top 24, []⟩
def d_l_gcd : DX := ⟨fun K => (He.ga K "_law_gcd"), "_law_gcd", "_law_gcd", top 25, []⟩
def d_l_parts : DX := ⟨fun K => (He.ga K "_law_parts"), "_law_parts", "_law_parts", top 26, []⟩
def d_l_lots : DX := ⟨fun K => (He.ga K "_law_lots"), "_law_lots", "_law_lots", top 27, []⟩
def d_l_counts : DX := ⟨fun K => (He.ga K "_law_counts"), "_law_counts", "_law_counts", top 28, []⟩
def d_l_met : DX := ⟨fun K => (He.ga K "_law_met"), "_law_met", "_law_met", top 29, []⟩
def d_l_fold : DX := ⟨fun K => (He.ga K "_law_fold"), "_law_fold", "_law_fold", top 30, []⟩
def d_l_is_lot : DX := ⟨fun K => (He.ga K "_law_is_lot"), "_law_is_lot", "_law_is_lot", top 31, []⟩
def d_l_factor : DX := ⟨fun K => (He.ga K "_law_factor"), "_law_factor", "_law_factor", top 32, []⟩
def d_l_shift : DX := ⟨fun K => (He.ga K "_law_shift"), "_law_shift", "_law_shift", top 33, []⟩
def d_l_part : DX := ⟨fun K => (He.ga K "_law_part"), "_law_part", "_law_part", top 34, []⟩
def d_l_kind : DX := ⟨fun K => (He.ga K "_law_kind"), "_law_kind", "_law_kind", top 35, []⟩
def d_l_done : DX := ⟨fun K => (He.ga K "_law_done"), "_law_done", "_law_done", top 36, []⟩
def d_l_sum : DX := ⟨fun K => (He.ga K "_law_sum"), "_law_sum", "_law_sum", top 37, []⟩
def d_l_told : DX := ⟨fun K => (He.ga K "_law_told"), "_law_told", "_law_told", top 38, []⟩
def d_l_copied_due : DX := ⟨fun K => (He.ga K "_law_copied_due"), "_law_copied_due", "_law_copied_due", top 39, []⟩
def d_l_residues_due : DX := ⟨fun K => (He.ga K "_law_residues_due"), "_law_residues_due", "_law_residues_due", top 40, []⟩
def d_l_due : DX := ⟨fun K => (He.ga K "_law_due"), "_law_due", "_law_due", top 41, []⟩
def d_law : DX := ⟨fun K => (He.ga K "law"), "law", "law", top 42, []⟩
def d_first_repeated : DX := ⟨fun K => (He.ga K "first_repeated"), "first_repeated", "first_repeated", top 15, []⟩
def d_Lot_iter : DX := ⟨fun K => (He.ma K (He.ga K "Lot") "__iter__"), "__iter__", "Lot.__iter__", inClass (top 17) 7, []⟩
def d_BadNumber_init : DX := ⟨fun K => (He.ma K (He.ga K "BadNumber") "__init__"), "__init__", "BadNumber.__init__", inClass (top 3) 0, [("__class__" : PySem.Str)]⟩
def d_Meets_init : DX := ⟨fun K => (He.ma K (He.ga K "Meets") "__init__"), "__init__", "Meets.__init__", inClass (top 5) 0, [("__class__" : PySem.Str)]⟩
def d_RepeatedHour_init : DX := ⟨fun K => (He.ma K (He.ga K "RepeatedHour") "__init__"), "__init__", "RepeatedHour.__init__", inClass (top 4) 0, [("__class__" : PySem.Str)]⟩
def d_NotADivisor_init : DX := ⟨fun K => (He.ma K (He.ga K "NotADivisor") "__init__"), "__init__", "NotADivisor.__init__", inClass (top 7) 0, [("__class__" : PySem.Str)]⟩
def fn_0 : List (DX) := [
  d_hours_checked,
  d_rings_checked,
  d_each_once,
  d_Lot_init,
  d_Lot_members,
  d_Lot_lshift,
  d_Lot_rshift,
  d_Lot_neg,
  d_Lot_invert,
  d_Lot_mul]
def fn_1 : List (DX) := [
  d_Lot_rmul,
  d_Lot_add,
  d_Lot_mod,
  d_Lot_pow,
  d_meetings,
  d_differences,
  d_l_cell,
  d_l_draws,
  d_l_is_int,
  d_l_same]
def fn_2 : List (DX) := [
  d_l_bits,
  d_l_subset,
  d_l_gcd,
  d_l_parts,
  d_l_lots,
  d_l_counts,
  d_l_met,
  d_l_fold,
  d_l_is_lot,
  d_l_factor]
def fn_3 : List (DX) := [
  d_l_shift,
  d_l_part,
  d_l_kind,
  d_l_done,
  d_l_sum,
  d_l_told,
  d_l_copied_due,
  d_l_residues_due,
  d_l_due,
  d_law]
def fn_4 : List (DX) := [
  d_first_repeated,
  d_Lot_iter,
  d_BadNumber_init,
  d_Meets_init,
  d_RepeatedHour_init,
  d_NotADivisor_init]
def fn : List (DX) := fn_0 ++ (fn_1 ++ (fn_2 ++ (fn_3 ++ (fn_4))))
def fl_0 : List (PySem.W.Frag → Bool) := [
  fun K => (He.Fa.cls "Lot").ok K,
  fun K => (He.Fa.noat "Lot" "hours").ok K,
  fun K => (He.Fa.exc "OtherHours").ok K,
  fun K => (He.Fa.glo "OtherHours").ok K,
  fun K => (He.Fa.free "int").ok K,
  fun K => (He.Fa.free "sorted").ok K,
  fun K => (He.Fa.free "len").ok K,
  fun K => (He.Fa.free "range").ok K,
  fun K => conB K (He.ga K "Lot") "MOST" 360,
  fun K => (He.Fa.glo "hours_checked").ok K]
def fl_1 : List (PySem.W.Frag → Bool) := [
  fun K => (He.Fa.keep "hours_checked").ok K,
  fun K => (He.Fa.free "set").ok K,
  fun K => (He.Fa.glo "first_repeated").ok K,
  fun K => (He.Fa.keep "first_repeated").ok K,
  fun K => (He.Fa.noat "Lot" "_members").ok K,
  fun K => (He.Fa.free "list").ok K,
  fun K => (He.Fa.mkr "Lot").ok K,
  fun K => (He.Fa.glo "Lot").ok K,
  fun K => (He.Fa.glo "each_once").ok K,
  fun K => (He.Fa.keep "each_once").ok K]
def fl_2 : List (PySem.W.Frag → Bool) := [
  fun K => opFB K (He.ga K "Lot") "mul",
  fun K => (He.Fa.glo "rings_checked").ok K,
  fun K => (He.Fa.keep "rings_checked").ok K,
  fun K => fndB K (He.ga K "Lot") "__iter__",
  fun K => (He.Fa.glo "meetings").ok K,
  fun K => (He.Fa.keep "meetings").ok K,
  fun K => (He.Fa.free "abs").ok K,
  fun K => (He.Fa.free "isinstance").ok K,
  fun K => (He.Fa.free "bool").ok K,
  fun K => (He.Fa.glo "_law_is_int").ok K]
def fl_3 : List (PySem.W.Frag → Bool) := [
  fun K => (He.Fa.keep "_law_is_int").ok K,
  fun K => (He.Fa.free "str").ok K,
  fun K => (He.Fa.free "tuple").ok K,
  fun K => (He.Fa.glo "_law_same").ok K,
  fun K => (He.Fa.keep "_law_same").ok K,
  fun K => (He.Fa.glo "_law_draws").ok K,
  fun K => (He.Fa.keep "_law_draws").ok K,
  fun K => (He.Fa.glo "_law_bits").ok K,
  fun K => (He.Fa.keep "_law_bits").ok K,
  fun K => (He.Fa.glo "_law_cell").ok K]
def fl_4 : List (PySem.W.Frag → Bool) := [
  fun K => (He.Fa.keep "_law_cell").ok K,
  fun K => (He.Fa.glo "_law_subset").ok K,
  fun K => (He.Fa.keep "_law_subset").ok K,
  fun K => (He.Fa.glo "_law_parts").ok K,
  fun K => (He.Fa.keep "_law_parts").ok K,
  fun K => (He.Fa.free "sum").ok K,
  fun K => propB K (He.ga K "Lot") "members",
  fun K => (He.Fa.glo "_law_gcd").ok K,
  fun K => (He.Fa.keep "_law_gcd").ok K,
  fun K => (He.Fa.glo "_law_shift").ok K]
def fl_5 : List (PySem.W.Frag → Bool) := [
  fun K => (He.Fa.keep "_law_shift").ok K,
  fun K => opFB K (He.ga K "Lot") "lshift",
  fun K => opFB K (He.ga K "Lot") "rshift",
  fun K => fndB K (He.ga K "Lot") "__neg__",
  fun K => fndB K (He.ga K "Lot") "__invert__",
  fun K => (He.Fa.glo "_law_factor").ok K,
  fun K => (He.Fa.keep "_law_factor").ok K,
  fun K => fndB K (He.ga K "Lot") "__rmul__",
  fun K => decide (PySem.W.subIn K (.ref (He.ga K "Lot")) (.type "int") = some false),
  fun K => opFB K (He.ga K "Lot") "pow"]
def fl_6 : List (PySem.W.Frag → Bool) := [
  fun K => (He.Fa.glo "_law_part").ok K,
  fun K => (He.Fa.keep "_law_part").ok K,
  fun K => opFB K (He.ga K "Lot") "mod",
  fun K => opFB K (He.ga K "Lot") "add",
  fun K => (He.Fa.glo "Meets").ok K,
  fun K => xfB K (He.ga K "Meets"),
  fun K => (He.Fa.noat "Meets" "hour").ok K,
  fun K => (He.Fa.glo "_law_done").ok K,
  fun K => (He.Fa.keep "_law_done").ok K,
  fun K => (He.Fa.glo "_law_met").ok K]
def fl_7 : List (PySem.W.Frag → Bool) := [
  fun K => (He.Fa.keep "_law_met").ok K,
  fun K => (He.Fa.glo "_law_copied_due").ok K,
  fun K => (He.Fa.keep "_law_copied_due").ok K,
  fun K => (He.Fa.glo "_law_residues_due").ok K,
  fun K => (He.Fa.keep "_law_residues_due").ok K,
  fun K => (He.Fa.glo "_law_lots").ok K,
  fun K => (He.Fa.keep "_law_lots").ok K,
  fun K => (He.Fa.glo "_law_counts").ok K,
  fun K => (He.Fa.keep "_law_counts").ok K,
  fun K => (He.Fa.glo "differences").ok K]
def fl_8 : List (PySem.W.Frag → Bool) := [
  fun K => (He.Fa.keep "differences").ok K,
  fun K => (He.Fa.glo "_law_sum").ok K,
  fun K => (He.Fa.keep "_law_sum").ok K,
  fun K => (He.Fa.glo "_law_fold").ok K,
  fun K => (He.Fa.keep "_law_fold").ok K,
  fun K => (He.Fa.glo "_law_is_lot").ok K,
  fun K => (He.Fa.keep "_law_is_lot").ok K,
  fun K => (He.Fa.glo "_law_kind").ok K,
  fun K => (He.Fa.keep "_law_kind").ok K,
  fun K => (He.Fa.glo "_law_told").ok K]
def fl_9 : List (PySem.W.Frag → Bool) := [
  fun K => (He.Fa.keep "_law_told").ok K,
  fun K => (He.Fa.glo "_law_due").ok K,
  fun K => (He.Fa.keep "_law_due").ok K,
  fun K => (He.Fa.free "iter").ok K,
  fun K => (He.Fa.noat "BadNumber" "name").ok K,
  fun K => (He.Fa.noat "BadNumber" "value").ok K,
  fun K => (He.Fa.glo "BadNumber").ok K,
  fun K => cellB K (He.ma K (He.ga K "BadNumber") "__init__") (He.ga K "BadNumber") theFile,
  fun K => exfB K (He.ga K "BadNumber") (He.ma K (He.ga K "BadNumber") "__init__"),
  fun K => cellB K (He.ma K (He.ga K "Meets") "__init__") (He.ga K "Meets") theFile]
def fl_10 : List (PySem.W.Frag → Bool) := [
  fun K => exfB K (He.ga K "Meets") (He.ma K (He.ga K "Meets") "__init__"),
  fun K => (He.Fa.noat "RepeatedHour" "hour").ok K,
  fun K => (He.Fa.glo "RepeatedHour").ok K,
  fun K => cellB K (He.ma K (He.ga K "RepeatedHour") "__init__") (He.ga K "RepeatedHour") theFile,
  fun K => exfB K (He.ga K "RepeatedHour") (He.ma K (He.ga K "RepeatedHour") "__init__"),
  fun K => (He.Fa.noat "NotADivisor" "number").ok K,
  fun K => (He.Fa.glo "NotADivisor").ok K,
  fun K => cellB K (He.ma K (He.ga K "NotADivisor") "__init__") (He.ga K "NotADivisor") theFile,
  fun K => exfB K (He.ga K "NotADivisor") (He.ma K (He.ga K "NotADivisor") "__init__"),
  fun K => (He.Fa.free "super").ok K]
def fl_11 : List (PySem.W.Frag → Bool) := [
  fun K => (He.Fa.glo "law").ok K,
  exmAll,
  kitAll,
  fun K => insAll K "Lot"]
def fl : List (PySem.W.Frag → Bool) := fl_0 ++ (fl_1 ++ (fl_2 ++ (fl_3 ++ (fl_4 ++ (fl_5 ++ (fl_6 ++ (fl_7 ++ (fl_8 ++ (fl_9 ++ (fl_10 ++ (fl_11)))))))))))
abbrev TT (w : World) (K : PySem.W.Frag) (mg : PySem.Str → Option Value) (base : Heap) : Prop := Tx fl fn Pg w K mg base
theorem sc_hours_checked : FnScope ["hours", "most"] ["hours", "most"] (defScope (top 9)) := ⟨rfl, rfl, rfl, by decide +kernel, rfl, by decide +kernel, by decide +kernel⟩
theorem sc_rings_checked : FnScope ["one", "other"] ["one", "other"] (defScope (top 10)) := ⟨rfl, rfl, rfl, by decide +kernel, rfl, by decide +kernel, by decide +kernel⟩
theorem sc_each_once : FnScope ["residues", "ascending", "at", "residue"] ["residues"] (defScope (top 16)) := ⟨rfl, rfl, rfl, by decide +kernel, rfl, by decide +kernel, by decide +kernel⟩
theorem sc_Lot_init : FnScope ["self", "hours", "members", "residues", "member", "residue"] ["self", "hours", "members"] (defScope (inClass (top 17) 1)) := ⟨rfl, rfl, rfl, by decide +kernel, rfl, by decide +kernel, by decide +kernel⟩
theorem sc_Lot_members : FnScope ["self"] ["self"] (defScope (inClass (top 17) 3)) := ⟨rfl, rfl, rfl, by decide +kernel, rfl, by decide +kernel, by decide +kernel⟩
theorem sc_Lot_lshift : FnScope ["self", "by", "member"] ["self", "by"] (defScope (inClass (top 17) 10)) := ⟨rfl, rfl, rfl, by decide +kernel, rfl, by decide +kernel, by decide +kernel⟩
theorem sc_Lot_rshift : FnScope ["self", "by", "member"] ["self", "by"] (defScope (inClass (top 17) 11)) := ⟨rfl, rfl, rfl, by decide +kernel, rfl, by decide +kernel, by decide +kernel⟩
theorem sc_Lot_neg : FnScope ["self", "member"] ["self"] (defScope (inClass (top 17) 12)) := ⟨rfl, rfl, rfl, by decide +kernel, rfl, by decide +kernel, by decide +kernel⟩
theorem sc_Lot_invert : FnScope ["self", "hour"] ["self"] (defScope (inClass (top 17) 13)) := ⟨rfl, rfl, rfl, by decide +kernel, rfl, by decide +kernel, by decide +kernel⟩
theorem sc_Lot_mul : FnScope ["self", "factor", "member"] ["self", "factor"] (defScope (inClass (top 17) 16)) := ⟨rfl, rfl, rfl, by decide +kernel, rfl, by decide +kernel, by decide +kernel⟩
theorem sc_Lot_rmul : FnScope ["self", "factor"] ["self", "factor"] (defScope (inClass (top 17) 17)) := ⟨rfl, rfl, rfl, by decide +kernel, rfl, by decide +kernel, by decide +kernel⟩
theorem sc_Lot_add : FnScope ["self", "other", "sums", "one", "two"] ["self", "other"] (defScope (inClass (top 17) 18)) := ⟨rfl, rfl, rfl, by decide +kernel, rfl, by decide +kernel, by decide +kernel⟩
theorem sc_Lot_mod : FnScope ["self", "number", "member"] ["self", "number"] (defScope (inClass (top 17) 19)) := ⟨rfl, rfl, rfl, by decide +kernel, rfl, by decide +kernel, by decide +kernel⟩
theorem sc_Lot_pow : FnScope ["self", "times", "copies", "lap", "member"] ["self", "times"] (defScope (inClass (top 17) 20)) := ⟨rfl, rfl, rfl, by decide +kernel, rfl, by decide +kernel, by decide +kernel⟩
theorem sc_meetings : FnScope ["one", "other", "counts", "first", "second", "apart", "_"] ["one", "other"] (defScope (top 12)) := ⟨rfl, rfl, rfl, by decide +kernel, rfl, by decide +kernel, by decide +kernel⟩
theorem sc_differences : FnScope ["lot"] ["lot"] (defScope (top 13)) := ⟨rfl, rfl, rfl, by decide +kernel, rfl, by decide +kernel, by decide +kernel⟩
theorem sc_l_cell : FnScope ["script", "k"] ["script", "k"] (defScope (top 19)) := ⟨rfl, rfl, rfl, by decide +kernel, rfl, by decide +kernel, by decide +kernel⟩
theorem sc_l_draws : FnScope ["cell", "salt", "menu", "found", "rest", "mixed", "k"] ["cell", "salt", "menu"] (defScope (top 20)) := ⟨rfl, rfl, rfl, by decide +kernel, rfl, by decide +kernel, by decide +kernel⟩
theorem sc_l_is_int : FnScope ["x"] ["x"] (defScope (top 21)) := ⟨rfl, rfl, rfl, by decide +kernel, rfl, by decide +kernel, by decide +kernel⟩
theorem sc_l_same : FnScope ["got", "due", "k"] ["got", "due"] (defScope (top 22)) := ⟨rfl, rfl, rfl, by decide +kernel, rfl, by decide +kernel, by decide +kernel⟩
theorem sc_l_bits : FnScope ["n", "number", "found", "h"] ["n", "number"] (defScope (top 23)) := ⟨rfl, rfl, rfl, by decide +kernel, rfl, by decide +kernel, by decide +kernel⟩
theorem sc_l_subset : FnScope ["cell", "salt", "n", "found", "pieces", "k", "h"] ["cell", "salt", "n"] (defScope (top 24)) := ⟨rfl, rfl, rfl, by decide +kernel, rfl, by decide +kernel, by decide +kernel⟩
theorem sc_l_gcd : FnScope ["a", "b"] ["a", "b"] (defScope (top 25)) := ⟨rfl, rfl, rfl, by decide +kernel, rfl, by decide +kernel, by decide +kernel⟩
theorem sc_l_parts : FnScope ["n", "part"] ["n"] (defScope (top 26)) := ⟨rfl, rfl, rfl, by decide +kernel, rfl, by decide +kernel, by decide +kernel⟩
theorem sc_l_lots : FnScope ["script", "n", "index", "fitting", "first", "second", "parts", "part", "h"] ["script", "n", "index", "fitting"] (defScope (top 27)) := ⟨rfl, rfl, rfl, by decide +kernel, rfl, by decide +kernel, by decide +kernel⟩
theorem sc_l_counts : FnScope ["members", "n", "marks", "counts", "d", "h"] ["members", "n"] (defScope (top 28)) := ⟨rfl, rfl, rfl, by decide +kernel, rfl, by decide +kernel, by decide +kernel⟩
theorem sc_l_met : FnScope ["residues", "n", "counts", "residue"] ["residues", "n"] (defScope (top 29)) := ⟨rfl, rfl, rfl, by decide +kernel, rfl, by decide +kernel, by decide +kernel⟩
theorem sc_l_fold : FnScope ["one", "two", "n", "d", "e"] ["one", "two", "n"] (defScope (top 30)) := ⟨rfl, rfl, rfl, by decide +kernel, rfl, by decide +kernel, by decide +kernel⟩
theorem sc_l_is_lot : FnScope ["lot", "n", "due"] ["lot", "n", "due"] (defScope (top 31)) := ⟨rfl, rfl, rfl, by decide +kernel, rfl, by decide +kernel, by decide +kernel⟩
theorem sc_l_factor : FnScope ["n", "number", "units_here", "t"] ["n", "number"] (defScope (top 32)) := ⟨rfl, rfl, rfl, by decide +kernel, rfl, by decide +kernel, by decide +kernel⟩
theorem sc_l_shift : FnScope ["number"] ["number"] (defScope (top 33)) := ⟨rfl, rfl, rfl, by decide +kernel, rfl, by decide +kernel, by decide +kernel⟩
theorem sc_l_part : FnScope ["n", "number", "parts"] ["n", "number"] (defScope (top 34)) := ⟨rfl, rfl, rfl, by decide +kernel, rfl, by decide +kernel, by decide +kernel⟩
theorem sc_l_kind : FnScope ["n", "kind", "number"] ["n", "kind", "number"] (defScope (top 35)) := ⟨rfl, rfl, rfl, by decide +kernel, rfl, by decide +kernel, by decide +kernel⟩
theorem sc_l_done : FnScope ["lot", "n", "kind", "number"] ["lot", "n", "kind", "number"] (defScope (top 36)) := ⟨rfl, rfl, rfl, by decide +kernel, rfl, by decide +kernel, by decide +kernel⟩
theorem sc_l_sum : FnScope ["one", "two", "told", "e"] ["one", "two"] (defScope (top 37)) := ⟨rfl, rfl, rfl, by decide +kernel, rfl, by decide +kernel, by decide +kernel⟩
theorem sc_l_told : FnScope ["lot", "n", "kind", "number", "told", "e"] ["lot", "n", "kind", "number"] (defScope (top 38)) := ⟨rfl, rfl, rfl, by decide +kernel, rfl, by decide +kernel, by decide +kernel⟩
theorem sc_l_copied_due : FnScope ["members", "counts", "n", "times", "found", "lap", "h", "d"] ["members", "counts", "n", "times"] (defScope (top 39)) := ⟨rfl, rfl, rfl, by decide +kernel, rfl, by decide +kernel, by decide +kernel⟩
theorem sc_l_residues_due : FnScope ["members", "counts", "n", "part", "met", "twice", "found", "h", "d", "e"] ["members", "counts", "n", "part"] (defScope (top 40)) := ⟨rfl, rfl, rfl, by decide +kernel, rfl, by decide +kernel, by decide +kernel⟩
theorem sc_l_due : FnScope ["members", "counts", "n", "kind", "number", "moved", "found", "d", "residues", "h", "count"] ["members", "counts", "n", "kind", "number"] (defScope (top 41)) := ⟨rfl, rfl, rfl, by decide +kernel, rfl, by decide +kernel, by decide +kernel⟩
theorem sc_law : FnScope ["script", "ways", "n", "first", "second", "ring", "one", "two", "counts", "others", "sums", "h", "met", "twice", "told", "lot", "members", "deeds", "k", "kind", "due", "other"] ["script"] (defScope (top 42)) := ⟨rfl, rfl, rfl, by decide +kernel, rfl, by decide +kernel, by decide +kernel⟩
section
variable {w : World} {K : PySem.W.Frag} {mg : PySem.Str → Option Value} {base : Heap}
theorem exk_BadNumber (T : TT w K mg base) : ExK Pg w K mg (He.ga K "BadNumber") (He.ma K (He.ga K "BadNumber") "__init__") "BadNumber" ok2 (fs2 "name" "value") :=
  exk2 (file := theFile) T 42 (d := d_BadNumber_init) rfl rfl (T.fa 97 rfl) (T.fa 98 rfl) (T.fa 109 rfl) (T.glo "BadNumber" (T.fa 96 rfl)) (He.noat_ok (x := "BadNumber") (f := "name") (T.fa 94 rfl)) (He.noat_ok (x := "BadNumber") (f := "value") (T.fa 95 rfl)) rfl rfl
    (⟨⟨rfl, rfl, rfl, by decide +kernel, by decide +kernel, by decide +kernel, by decide +kernel, ⟨_, rfl, rfl⟩, fun _ _ _ _ _ => rfl, fun _ _ _ _ _ _ _ _ _ us hl => match us, hl with | [_, _, _], _ => rfl⟩,
    ⟨_, _, _, _, _, _, _, _, _, _, _, _, _, _, _, _, _, _, rfl, by decide +kernel, fun _ _ _ _ _ => ⟨_, rfl⟩⟩, by decide +kernel, by decide +kernel, by decide +kernel⟩ : BwM.Txt2 (inClass (top 3) 0) "name" "name" "value" "value")
theorem exk_Meets (T : TT w K mg base) : ExK Pg w K mg (He.ga K "Meets") (He.ma K (He.ga K "Meets") "__init__") "Meets" ok1 (fs1 "hour") :=
  exk1 (file := theFile) T 43 (d := d_Meets_init) rfl rfl (T.fa 99 rfl) (T.fa 100 rfl) (T.fa 109 rfl) (T.glo "Meets" (T.fa 64 rfl)) (He.noat_ok (x := "Meets") (f := "hour") (T.fa 66 rfl)) rfl rfl
    (⟨⟨rfl, rfl, rfl, by decide +kernel, by decide +kernel, by decide +kernel, by decide +kernel, ⟨_, rfl, rfl⟩, fun _ _ _ _ _ => rfl, fun _ _ _ _ _ _ _ _ _ us hl => match us, hl with | [_, _], _ => rfl⟩,
    ⟨_, _, _, _, _, _, _, _, _, _, _, _, rfl, fun _ _ _ _ _ => ⟨_, rfl⟩⟩, by decide +kernel, by decide +kernel⟩ : BwM.Txt1 (inClass (top 5) 0) "hour" "hour")
theorem exk_RepeatedHour (T : TT w K mg base) : ExK Pg w K mg (He.ga K "RepeatedHour") (He.ma K (He.ga K "RepeatedHour") "__init__") "RepeatedHour" ok1 (fs1 "hour") :=
  exk1 (file := theFile) T 44 (d := d_RepeatedHour_init) rfl rfl (T.fa 103 rfl) (T.fa 104 rfl) (T.fa 109 rfl) (T.glo "RepeatedHour" (T.fa 102 rfl)) (He.noat_ok (x := "RepeatedHour") (f := "hour") (T.fa 101 rfl)) rfl rfl
    (⟨⟨rfl, rfl, rfl, by decide +kernel, by decide +kernel, by decide +kernel, by decide +kernel, ⟨_, rfl, rfl⟩, fun _ _ _ _ _ => rfl, fun _ _ _ _ _ _ _ _ _ us hl => match us, hl with | [_, _], _ => rfl⟩,
    ⟨_, _, _, _, _, _, _, _, _, _, _, _, rfl, fun _ _ _ _ _ => ⟨_, rfl⟩⟩, by decide +kernel, by decide +kernel⟩ : BwM.Txt1 (inClass (top 4) 0) "hour" "hour")
theorem exk_NotADivisor (T : TT w K mg base) : ExK Pg w K mg (He.ga K "NotADivisor") (He.ma K (He.ga K "NotADivisor") "__init__") "NotADivisor" ok1 (fs1 "number") :=
  exk1 (file := theFile) T 45 (d := d_NotADivisor_init) rfl rfl (T.fa 107 rfl) (T.fa 108 rfl) (T.fa 109 rfl) (T.glo "NotADivisor" (T.fa 106 rfl)) (He.noat_ok (x := "NotADivisor") (f := "number") (T.fa 105 rfl)) rfl rfl
    (⟨⟨rfl, rfl, rfl, by decide +kernel, by decide +kernel, by decide +kernel, by decide +kernel, ⟨_, rfl, rfl⟩, fun _ _ _ _ _ => rfl, fun _ _ _ _ _ _ _ _ _ us hl => match us, hl with | [_, _], _ => rfl⟩,
    ⟨_, _, _, _, _, _, _, _, _, _, _, _, rfl, fun _ _ _ _ _ => ⟨_, rfl⟩⟩, by decide +kernel, by decide +kernel⟩ : BwM.Txt1 (inClass (top 7) 0) "number" "number")
theorem T_kf (T : TT w K mg base) : KF K := ⟨(T.fa 111 rfl), (T.fa 112 rfl), (T.fa 113 rfl)⟩
theorem it_Lot (T : TT w K mg base) : ItFn Pg w K mg base (He.ga K "Lot") (He.ma K (He.ga K "Lot") "__iter__") "_members" 2 := by
  obtain ⟨fd, F⟩ := T.df 41 (d := d_Lot_iter) rfl
  intro A outer s H a Q hr e0 h
  have sc : FnScope ["self"] ["self"] (defScope (inClass (top 17) 7)) := ⟨rfl, rfl, rfl, by decide +kernel, rfl, by decide +kernel, by decide +kernel⟩
  refine fn_sized (d := d_Lot_iter) (k := 1) (sp := spIt K (He.ga K "Lot") "_members") F sc (fun n vs H Q E h => by obtain ⟨_, _, _, _, _, rfl, _⟩ := h; rfl) (fun cdv A outer s H vs Q E nd tk hr hsp => ⟨tRet (tCB (ItX.rIterN K s.heap.objs.size) (tCons (tFldI (He.ga K "Lot") "_members" (tVar 0)) tNil)), ?_, ?_⟩) A outer s H _ [.ref a] [.ref a] Q L2.E0 hr e0 ?_ (.cons rfl .nil) h
  · exact pss_one (ps_ret (pe_callB ItX.call_iterN rfl (T.free "iter" (T.fa 93 rfl)) (by kernel_rfl) (pa_cons (pe_fldI (He.cls_ok (x := "Lot") (T.fa 0 rfl)) (He.noat_ok (x := "Lot") (f := "_members") (T.fa 14 rfl)) (pv 0)) pa_nil)))
  · obtain ⟨a, dx, l, fs, xs, rfl, ha, hl, hs, hq⟩ := hsp
    exact ⟨_, rfl, a, dx, fs, _, rfl, ha, hl, l, xs, rfl, hs, fun it h1 h2 => hq it h1 h2⟩
  · obtain ⟨oc, od, kV, doc, pm, an, cdv, ct, osl, rfl, lk, hcd⟩ := F.ex
    exact .of_eq rfl
theorem ok_first_repeated (T : TT w K mg base) : OkF Pg w K mg base 1 (He.ga K "first_repeated") (spF K) := by
  obtain ⟨fd, F⟩ := T.df 40 (d := d_first_repeated) rfl
  exact ⟨fd, ["residues"], ⟨fun _ _ _ _ h => h.elim, fun _ _ _ _ _ _ _ _ _ _ _ _ _ h => h.elim⟩, F.binds (fun _ _ _ _ _ _ us hl => match us, hl with | [_], _ => rfl)⟩
theorem ok_hours_checked (T : TT w K mg base) : OkF Pg w K mg base 2 (He.ga K "hours_checked") (sp_hours_checked K) :=
  okf_of (d := d_hours_checked) (t := fun E => t_hours_checked K E) (T.df 0 rfl) sc_hours_checked (fun _ _ _ _ h => by obtain ⟨_, _, rfl, _⟩ := h; rfl)
    (fun _ _ _ _ _ _ us hl => match us, hl with | [_, _], _ => rfl) (fun cdv A outer s H E nd tk hr =>
    (pss_one (ps_if (pt_not (pt_chain op_le op_le pe_int (pv 0) (pv 1))) (pss_one (ps_raise rfl tk (pmk_e (exk_BadNumber T) hr (by decide) (pa_cons pe_str (pa_cons (pv 0) pa_nil)) rfl))) pss_nil)))
    (pure_hours_checked (T_kf T))
theorem ok_rings_checked (T : TT w K mg base) : OkF Pg w K mg base 2 (He.ga K "rings_checked") (sp_rings_checked K) :=
  okf_of (d := d_rings_checked) (t := fun E => t_rings_checked K E) (T.df 1 rfl) sc_rings_checked (fun _ _ _ _ h => by obtain ⟨_, _, _, _, _, _, rfl, _⟩ := h; rfl)
    (fun _ _ _ _ _ _ us hl => match us, hl with | [_, _], _ => rfl) (fun cdv A outer s H E nd tk hr =>
    (pss_one (ps_if (pt_cmpR op_ne (pe_fldI (He.cls_ok (x := "Lot") (T.fa 0 rfl)) (He.noat_ok (x := "Lot") (f := "hours") (T.fa 1 rfl)) (pv 0)) (pe_fldI (He.cls_ok (x := "Lot") (T.fa 0 rfl)) (He.noat_ok (x := "Lot") (f := "hours") (T.fa 1 rfl)) (pv 1)) (nomark _)) (pss_one (ps_raise rfl tk (pmk_own PySem.F.excBase_ValueError (He.exc_ok (x := "OtherHours") (T.fa 2 rfl)).1 (T.glo "OtherHours" (T.fa 3 rfl)) (He.exc_ok (x := "OtherHours") (T.fa 2 rfl)).2.1 (raises_own (He.exc_ok (x := "OtherHours") (T.fa 2 rfl)).2.2.1 (He.exc_ok (x := "OtherHours") (T.fa 2 rfl)).2.2.2) rfl))) pss_nil)))
    (pure_rings_checked (T_kf T))
theorem ok_each_once (T : TT w K mg base) : OkF Pg w K mg base 2 (He.ga K "each_once") (sp_each_once K) :=
  okf_of (d := d_each_once) (t := fun E => t_each_once K E) (T.df 2 rfl) sc_each_once (fun _ _ _ _ h => by obtain ⟨_, _, rfl, _⟩ := h; rfl)
    (fun _ _ _ _ _ _ us hl => match us, hl with | [_], _ => rfl) (fun cdv A outer s H E nd tk hr =>
    (pss_cons (ps_set (i := 1) nd rfl (.inl rfl) (pe_callB cr_sortedI rfl (T.free "sorted" (T.fa 5 rfl)) (by kernel_rfl) (pa_cons (pe_lc (own := [("residue", 3)]) rfl nd (pi_list (pv 0)) (blkOk_by (own := [("residue", 3)]) (by kernel_rfl)) (fun _ _ _ _ _ => (pg_name (i := 3) nd rfl (.inl rfl))) (fun _ _ _ _ _ => pts_nil) (fun _ _ _ _ _ => (pe_callTy call_int1 rfl (T.free "int" (T.fa 4 rfl)) (by kernel_rfl) (pa_cons (pv 3) pa_nil)))) pa_nil)))
    (pss_cons (ps_for (passes_of rfl) rfl (pi_range2 rfl (T.free "range" (T.fa 7 rfl)) (pa_cons pe_int (pa_cons (pe_callB call_len_seq rfl (T.free "len" (T.fa 6 rfl)) boot_len (pa_cons (pv 1) pa_nil)) pa_nil))) (pg_name (i := 2) nd rfl (.inl rfl)) (pss_one (ps_if (pt_cmpR op_eq (pe_ix ix_list (pv 1) (pv 2) (fun _ _ => rfl)) (pe_ix ix_list (pv 1) (pe_op op_sub (pv 2) pe_int) (fun _ _ => rfl)) (nomark _)) (pss_one (ps_raise rfl tk (pmk_e (exk_Meets T) hr (by decide) (pa_cons (pe_ix ix_list (pv 1) (pv 2) (fun _ _ => rfl)) pa_nil) rfl))) pss_nil)))
    (pss_one (ps_ret (pv 1))))))
    (pure_each_once (T_kf T))
theorem ok_Lot_init (T : TT w K mg base) : OkF Pg w K mg base 4 (He.ma K (He.ga K "Lot") "__init__") (sp_Lot_init K) :=
  okf_of (d := d_Lot_init) (t := fun E => t_Lot_init K E) (T.df 3 rfl) sc_Lot_init (fun _ _ _ _ h => by obtain ⟨_, _, _, _, _, rfl, _⟩ := h; rfl)
    (fun _ _ _ _ _ _ us hl => match us, hl with | [_, _, _], _ => rfl) (fun cdv A outer s H E nd tk hr =>
    (pss_cons (ps_expr (pe_c1 ⟨ok_hours_checked T, hr.mono (by decide), tk⟩ (T.glo "hours_checked" (T.fa 9 rfl)) (He.keep_ok (x := "hours_checked") (T.fa 10 rfl)) rfl (pa_cons (pv 1) (pa_cons (pe_conI (He.cls_ok (x := "Lot") (T.fa 0 rfl)) (conB_ok (T.fa 8 rfl)) (pv 0)) pa_nil))))
    (pss_cons (ps_setLc (i := 3) (own := [("member", 4)]) rfl nd rfl rfl (sw_true rfl rfl rfl (by kernel_rfl)) (pi_list (pv 2)) (blkOk_by (own := [("member", 4)]) (by kernel_rfl)) (fun _ _ _ _ _ => (pg_name (i := 4) nd rfl (.inl rfl))) (fun _ _ _ _ _ => pts_nil) (fun _ _ _ _ _ => (pe_op op_modN (pv 4) (pv 1))))
    (pss_cons (ps_if (pt_cmpR op_lt (RZ.pe_lenSetI rfl (T.free "len" (T.fa 6 rfl)) rfl (T.free "set" (T.fa 11 rfl)) (pv 3)) (pe_callB call_len_seq rfl (T.free "len" (T.fa 6 rfl)) boot_len (pa_cons (pv 3) pa_nil)) (nomark _)) (pss_one (ps_raise rfl tk (pmk_e (exk_RepeatedHour T) hr (by decide) (pa_cons (pe_c1 ⟨ok_first_repeated T, hr.mono (by decide), tk⟩ (T.glo "first_repeated" (T.fa 12 rfl)) (He.keep_ok (x := "first_repeated") (T.fa 13 rfl)) rfl (pa_cons (pv 3) pa_nil)) pa_nil) rfl))) pss_nil)
    (pss_cons (ps_fldI (He.cls_ok (x := "Lot") (T.fa 0 rfl)) (He.noat_ok (x := "Lot") (f := "hours") (T.fa 1 rfl)) (pv 0) (pv 1) rfl)
    (pss_one (ps_fldI (He.cls_ok (x := "Lot") (T.fa 0 rfl)) (He.noat_ok (x := "Lot") (f := "_members") (T.fa 14 rfl)) (pv 0) (pe_callB cr_sortedI rfl (T.free "sorted" (T.fa 5 rfl)) (by kernel_rfl) (pa_cons (pe_lc (own := [("residue", 5)]) rfl nd (pi_list (pv 3)) (blkOk_by (own := [("residue", 5)]) (by kernel_rfl)) (fun _ _ _ _ _ => (pg_name (i := 5) nd rfl (.inl rfl))) (fun _ _ _ _ _ => pts_nil) (fun _ _ _ _ _ => (pe_callTy call_int1 rfl (T.free "int" (T.fa 4 rfl)) (by kernel_rfl) (pa_cons (pv 5) pa_nil)))) pa_nil)) rfl)))))))
    (pure_Lot_init (T_kf T))
theorem ok_Lot_members (T : TT w K mg base) : OkF Pg w K mg base 2 (getter K (He.ga K "Lot") "members") (sp_Lot_members K) :=
  okf_of (d := d_Lot_members) (t := fun E => t_Lot_members K E) (T.df 4 rfl) sc_Lot_members (fun _ _ _ _ h => by obtain ⟨_, _, _, rfl, _⟩ := h; rfl)
    (fun _ _ _ _ _ _ us hl => match us, hl with | [_], _ => rfl) (fun cdv A outer s H E nd tk hr =>
    (pss_one (ps_ret (pe_callTy call_list_of rfl (T.free "list" (T.fa 15 rfl)) (by kernel_rfl) (pa_cons (pe_fldI (He.cls_ok (x := "Lot") (T.fa 0 rfl)) (He.noat_ok (x := "Lot") (f := "_members") (T.fa 14 rfl)) (pv 0)) pa_nil)))))
    (pure_Lot_members (T_kf T))
theorem ok_Lot_lshift (T : TT w K mg base) : OkF Pg w K mg base 6 (He.ma K (He.ga K "Lot") "__lshift__") (sp_Lot_lshift K) :=
  okf_of (d := d_Lot_lshift) (t := fun E => t_Lot_lshift K E) (T.df 5 rfl) sc_Lot_lshift (fun _ _ _ _ h => by obtain ⟨_, _, _, _, rfl, _⟩ := h; rfl)
    (fun _ _ _ _ _ _ us hl => match us, hl with | [_, _], _ => rfl) (fun cdv A outer s H E nd tk hr =>
    (pss_one (ps_ret (pe_mk1 (He.mkr_ok (x := "Lot") (T.fa 16 rfl)) ⟨ok_Lot_init T, hr.mono (by decide), tk⟩ (hr.mono (by decide)) (T.glo "Lot" (T.fa 17 rfl)) rfl (pa_cons (pe_fldI (He.cls_ok (x := "Lot") (T.fa 0 rfl)) (He.noat_ok (x := "Lot") (f := "hours") (T.fa 1 rfl)) (pv 0)) (pa_cons (pe_lc (own := [("member", 2)]) rfl nd (pi_list (pe_fldI (He.cls_ok (x := "Lot") (T.fa 0 rfl)) (He.noat_ok (x := "Lot") (f := "_members") (T.fa 14 rfl)) (pv 0))) (blkOk_by (own := [("member", 2)]) (by kernel_rfl)) (fun _ _ _ _ _ => (pg_name (i := 2) nd rfl (.inl rfl))) (fun _ _ _ _ _ => pts_nil) (fun _ _ _ _ _ => (pe_op op_add (pv 2) (pv 1)))) pa_nil))))))
    (pure_Lot_lshift (T_kf T))
theorem ok_Lot_rshift (T : TT w K mg base) : OkF Pg w K mg base 6 (He.ma K (He.ga K "Lot") "__rshift__") (sp_Lot_rshift K) :=
  okf_of (d := d_Lot_rshift) (t := fun E => t_Lot_rshift K E) (T.df 6 rfl) sc_Lot_rshift (fun _ _ _ _ h => by obtain ⟨_, _, _, _, rfl, _⟩ := h; rfl)
    (fun _ _ _ _ _ _ us hl => match us, hl with | [_, _], _ => rfl) (fun cdv A outer s H E nd tk hr =>
    (pss_one (ps_ret (pe_mk1 (He.mkr_ok (x := "Lot") (T.fa 16 rfl)) ⟨ok_Lot_init T, hr.mono (by decide), tk⟩ (hr.mono (by decide)) (T.glo "Lot" (T.fa 17 rfl)) rfl (pa_cons (pe_fldI (He.cls_ok (x := "Lot") (T.fa 0 rfl)) (He.noat_ok (x := "Lot") (f := "hours") (T.fa 1 rfl)) (pv 0)) (pa_cons (pe_lc (own := [("member", 2)]) rfl nd (pi_list (pe_fldI (He.cls_ok (x := "Lot") (T.fa 0 rfl)) (He.noat_ok (x := "Lot") (f := "_members") (T.fa 14 rfl)) (pv 0))) (blkOk_by (own := [("member", 2)]) (by kernel_rfl)) (fun _ _ _ _ _ => (pg_name (i := 2) nd rfl (.inl rfl))) (fun _ _ _ _ _ => pts_nil) (fun _ _ _ _ _ => (pe_op op_sub (pv 2) (pv 1)))) pa_nil))))))
    (pure_Lot_rshift (T_kf T))
theorem ok_Lot_neg (T : TT w K mg base) : OkF Pg w K mg base 6 (He.ma K (He.ga K "Lot") "__neg__") (sp_Lot_neg K) :=
  okf_of (d := d_Lot_neg) (t := fun E => t_Lot_neg K E) (T.df 7 rfl) sc_Lot_neg (fun _ _ _ _ h => by obtain ⟨_, _, _, rfl, _⟩ := h; rfl)
    (fun _ _ _ _ _ _ us hl => match us, hl with | [_], _ => rfl) (fun cdv A outer s H E nd tk hr =>
    (pss_one (ps_ret (pe_mk1 (He.mkr_ok (x := "Lot") (T.fa 16 rfl)) ⟨ok_Lot_init T, hr.mono (by decide), tk⟩ (hr.mono (by decide)) (T.glo "Lot" (T.fa 17 rfl)) rfl (pa_cons (pe_fldI (He.cls_ok (x := "Lot") (T.fa 0 rfl)) (He.noat_ok (x := "Lot") (f := "hours") (T.fa 1 rfl)) (pv 0)) (pa_cons (pe_lc (own := [("member", 1)]) rfl nd (pi_list (pe_fldI (He.cls_ok (x := "Lot") (T.fa 0 rfl)) (He.noat_ok (x := "Lot") (f := "_members") (T.fa 14 rfl)) (pv 0))) (blkOk_by (own := [("member", 1)]) (by kernel_rfl)) (fun _ _ _ _ _ => (pg_name (i := 1) nd rfl (.inl rfl))) (fun _ _ _ _ _ => pts_nil) (fun _ _ _ _ _ => (pe_un un_neg (pv 1)))) pa_nil))))))
    (pure_Lot_neg (T_kf T))
theorem ok_Lot_invert (T : TT w K mg base) : OkF Pg w K mg base 6 (He.ma K (He.ga K "Lot") "__invert__") (sp_Lot_invert K) :=
  okf_of (d := d_Lot_invert) (t := fun E => t_Lot_invert K E) (T.df 8 rfl) sc_Lot_invert (fun _ _ _ _ h => by obtain ⟨_, _, _, rfl, _⟩ := h; rfl)
    (fun _ _ _ _ _ _ us hl => match us, hl with | [_], _ => rfl) (fun cdv A outer s H E nd tk hr =>
    (pss_one (ps_ret (pe_mk1 (He.mkr_ok (x := "Lot") (T.fa 16 rfl)) ⟨ok_Lot_init T, hr.mono (by decide), tk⟩ (hr.mono (by decide)) (T.glo "Lot" (T.fa 17 rfl)) rfl (pa_cons (pe_fldI (He.cls_ok (x := "Lot") (T.fa 0 rfl)) (He.noat_ok (x := "Lot") (f := "hours") (T.fa 1 rfl)) (pv 0)) (pa_cons (pe_lc (own := [("hour", 1)]) rfl nd (pi_range1 rfl (T.free "range" (T.fa 7 rfl)) (pa_cons (pe_fldI (He.cls_ok (x := "Lot") (T.fa 0 rfl)) (He.noat_ok (x := "Lot") (f := "hours") (T.fa 1 rfl)) (pv 0)) pa_nil)) (blkOk_by (own := [("hour", 1)]) (by kernel_rfl)) (fun _ _ _ _ _ => (pg_name (i := 1) nd rfl (.inl rfl))) (fun _ _ _ _ _ => pts_one (pt_cmpR op_notIn_seq (pv 1) (pe_fldI (He.cls_ok (x := "Lot") (T.fa 0 rfl)) (He.noat_ok (x := "Lot") (f := "_members") (T.fa 14 rfl)) (pv 0)) rfl)) (fun _ _ _ _ _ => (pv 1))) pa_nil))))))
    (pure_Lot_invert (T_kf T))
theorem ok_Lot_mul (T : TT w K mg base) : OkF Pg w K mg base 6 (He.ma K (He.ga K "Lot") "__mul__") (sp_Lot_mul K) :=
  okf_of (d := d_Lot_mul) (t := fun E => t_Lot_mul K E) (T.df 9 rfl) sc_Lot_mul (fun _ _ _ _ h => by obtain ⟨_, _, _, _, rfl, _⟩ := h; rfl)
    (fun _ _ _ _ _ _ us hl => match us, hl with | [_, _], _ => rfl) (fun cdv A outer s H E nd tk hr =>
    (pss_one (ps_ret (pe_mk1 (He.mkr_ok (x := "Lot") (T.fa 16 rfl)) ⟨ok_Lot_init T, hr.mono (by decide), tk⟩ (hr.mono (by decide)) (T.glo "Lot" (T.fa 17 rfl)) rfl (pa_cons (pe_fldI (He.cls_ok (x := "Lot") (T.fa 0 rfl)) (He.noat_ok (x := "Lot") (f := "hours") (T.fa 1 rfl)) (pv 0)) (pa_cons (pe_c1 ⟨ok_each_once T, hr.mono (by decide), tk⟩ (T.glo "each_once" (T.fa 18 rfl)) (He.keep_ok (x := "each_once") (T.fa 19 rfl)) rfl (pa_cons (pe_lc (own := [("member", 2)]) rfl nd (pi_list (pe_fldI (He.cls_ok (x := "Lot") (T.fa 0 rfl)) (He.noat_ok (x := "Lot") (f := "_members") (T.fa 14 rfl)) (pv 0))) (blkOk_by (own := [("member", 2)]) (by kernel_rfl)) (fun _ _ _ _ _ => (pg_name (i := 2) nd rfl (.inl rfl))) (fun _ _ _ _ _ => pts_nil) (fun _ _ _ _ _ => (pe_op op_modN (pe_op op_mulW (pv 2) (pv 1)) (pe_fldI (He.cls_ok (x := "Lot") (T.fa 0 rfl)) (He.noat_ok (x := "Lot") (f := "hours") (T.fa 1 rfl)) (pv 0))))) pa_nil)) pa_nil))))))
    (pure_Lot_mul (T_kf T))
theorem ok_Lot_rmul (T : TT w K mg base) : OkF Pg w K mg base 8 (He.ma K (He.ga K "Lot") "__rmul__") (sp_Lot_rmul K) :=
  okf_of (d := d_Lot_rmul) (t := fun E => t_Lot_rmul K E) (T.df 10 rfl) sc_Lot_rmul (fun _ _ _ _ h => by obtain ⟨_, _, _, _, rfl, _⟩ := h; rfl)
    (fun _ _ _ _ _ _ us hl => match us, hl with | [_, _], _ => rfl) (fun cdv A outer s H E nd tk hr =>
    (pss_one (ps_ret (pe_binN (op := .Mult) (opF_ok (T.fa 20 rfl)) ⟨ok_Lot_mul T, hr.mono (by decide), tk⟩ (by kernel_rfl) (by kernel_rfl) (pv 0) (pv 1)))))
    (pure_Lot_rmul (T_kf T))
theorem ok_Lot_add (T : TT w K mg base) : OkF Pg w K mg base 6 (He.ma K (He.ga K "Lot") "__add__") (sp_Lot_add K) :=
  okf_of (d := d_Lot_add) (t := fun E => t_Lot_add K E) (T.df 11 rfl) sc_Lot_add (fun _ _ _ _ h => by obtain ⟨_, _, _, _, _, _, rfl, _⟩ := h; rfl)
    (fun _ _ _ _ _ _ us hl => match us, hl with | [_, _], _ => rfl) (fun cdv A outer s H E nd tk hr =>
    (pss_cons (ps_expr (pe_c1 ⟨ok_rings_checked T, hr.mono (by decide), tk⟩ (T.glo "rings_checked" (T.fa 21 rfl)) (He.keep_ok (x := "rings_checked") (T.fa 22 rfl)) rfl (pa_cons (pv 0) (pa_cons (pv 1) pa_nil))))
    (pss_cons (ps_setLc2 (i := 2) (own := [("one", 3), ("two", 4)]) (vs1 := [4]) rfl nd rfl rfl (sw_true rfl rfl rfl (by kernel_rfl)) (pi_list (pe_fldI (He.cls_ok (x := "Lot") (T.fa 0 rfl)) (He.noat_ok (x := "Lot") (f := "_members") (T.fa 14 rfl)) (pv 0))) (blkOk_by (own := [("one", 3), ("two", 4)]) (by kernel_rfl)) (by decide) (fun _ _ _ _ _ => (pg_name (i := 3) nd rfl (.inl rfl))) (fun _ _ _ _ _ => pts_nil) (fun _ _ _ _ _ => (pi_list (pe_fldI (He.cls_ok (x := "Lot") (T.fa 0 rfl)) (He.noat_ok (x := "Lot") (f := "_members") (T.fa 14 rfl)) (pv 1)))) (fun _ _ _ _ _ => (pg_name (i := 4) nd rfl (.inl rfl))) (fun _ _ _ _ _ => pts_nil) (fun _ _ _ _ _ => (pe_op op_modN (pe_op op_add (pv 3) (pv 4)) (pe_fldI (He.cls_ok (x := "Lot") (T.fa 0 rfl)) (He.noat_ok (x := "Lot") (f := "hours") (T.fa 1 rfl)) (pv 0)))))
    (pss_one (ps_ret (pe_mk1 (He.mkr_ok (x := "Lot") (T.fa 16 rfl)) ⟨ok_Lot_init T, hr.mono (by decide), tk⟩ (hr.mono (by decide)) (T.glo "Lot" (T.fa 17 rfl)) rfl (pa_cons (pe_fldI (He.cls_ok (x := "Lot") (T.fa 0 rfl)) (He.noat_ok (x := "Lot") (f := "hours") (T.fa 1 rfl)) (pv 0)) (pa_cons (pe_c1 ⟨ok_each_once T, hr.mono (by decide), tk⟩ (T.glo "each_once" (T.fa 18 rfl)) (He.keep_ok (x := "each_once") (T.fa 19 rfl)) rfl (pa_cons (pv 2) pa_nil)) pa_nil))))))))
    (pure_Lot_add (T_kf T))
theorem ok_Lot_mod (T : TT w K mg base) : OkF Pg w K mg base 6 (He.ma K (He.ga K "Lot") "__mod__") (sp_Lot_mod K) :=
  okf_of (d := d_Lot_mod) (t := fun E => t_Lot_mod K E) (T.df 12 rfl) sc_Lot_mod (fun _ _ _ _ h => by obtain ⟨_, _, _, _, rfl, _⟩ := h; rfl)
    (fun _ _ _ _ _ _ us hl => match us, hl with | [_, _], _ => rfl) (fun cdv A outer s H E nd tk hr =>
    (pss_cons (ps_if (PW.pt (pw_or (pt_cmpR op_lt (pv 1) pe_int (nomark _)) (pw_or1 (pt_cmpR op_ne (pe_op op_modN (pe_fldI (He.cls_ok (x := "Lot") (T.fa 0 rfl)) (He.noat_ok (x := "Lot") (f := "hours") (T.fa 1 rfl)) (pv 0)) (pv 1)) pe_int (nomark _))))) (pss_one (ps_raise rfl tk (pmk_e (exk_NotADivisor T) hr (by decide) (pa_cons (pv 1) pa_nil) rfl))) pss_nil)
    (pss_one (ps_ret (pe_mk1 (He.mkr_ok (x := "Lot") (T.fa 16 rfl)) ⟨ok_Lot_init T, hr.mono (by decide), tk⟩ (hr.mono (by decide)) (T.glo "Lot" (T.fa 17 rfl)) rfl (pa_cons (pv 1) (pa_cons (pe_c1 ⟨ok_each_once T, hr.mono (by decide), tk⟩ (T.glo "each_once" (T.fa 18 rfl)) (He.keep_ok (x := "each_once") (T.fa 19 rfl)) rfl (pa_cons (pe_lc (own := [("member", 2)]) rfl nd (pi_list (pe_fldI (He.cls_ok (x := "Lot") (T.fa 0 rfl)) (He.noat_ok (x := "Lot") (f := "_members") (T.fa 14 rfl)) (pv 0))) (blkOk_by (own := [("member", 2)]) (by kernel_rfl)) (fun _ _ _ _ _ => (pg_name (i := 2) nd rfl (.inl rfl))) (fun _ _ _ _ _ => pts_nil) (fun _ _ _ _ _ => (pe_op op_modN (pv 2) (pv 1)))) pa_nil)) pa_nil)))))))
    (pure_Lot_mod (T_kf T))
theorem ok_Lot_pow (T : TT w K mg base) : OkF Pg w K mg base 6 (He.ma K (He.ga K "Lot") "__pow__") (sp_Lot_pow K) :=
  okf_of (d := d_Lot_pow) (t := fun E => t_Lot_pow K E) (T.df 13 rfl) sc_Lot_pow (fun _ _ _ _ h => by obtain ⟨_, _, _, _, rfl, _⟩ := h; rfl)
    (fun _ _ _ _ _ _ us hl => match us, hl with | [_, _], _ => rfl) (fun cdv A outer s H E nd tk hr =>
    (pss_cons (ps_if (pt_cmpR op_lt (pv 1) pe_int (nomark _)) (pss_one (ps_raise rfl tk (pmk_e (exk_BadNumber T) hr (by decide) (pa_cons pe_str (pa_cons (pv 1) pa_nil)) rfl))) pss_nil)
    (pss_cons (ps_expr (pe_c1 ⟨ok_hours_checked T, hr.mono (by decide), tk⟩ (T.glo "hours_checked" (T.fa 9 rfl)) (He.keep_ok (x := "hours_checked") (T.fa 10 rfl)) rfl (pa_cons (pe_op op_mulW (pe_fldI (He.cls_ok (x := "Lot") (T.fa 0 rfl)) (He.noat_ok (x := "Lot") (f := "hours") (T.fa 1 rfl)) (pv 0)) (pv 1)) (pa_cons (pe_conI (He.cls_ok (x := "Lot") (T.fa 0 rfl)) (conB_ok (T.fa 8 rfl)) (pv 0)) pa_nil))))
    (pss_cons (ps_setLc2 (i := 2) (own := [("lap", 3), ("member", 4)]) (vs1 := [4]) rfl nd rfl rfl (sw_true rfl rfl rfl (by kernel_rfl)) (pi_range1 rfl (T.free "range" (T.fa 7 rfl)) (pa_cons (pv 1) pa_nil)) (blkOk_by (own := [("lap", 3), ("member", 4)]) (by kernel_rfl)) (by decide) (fun _ _ _ _ _ => (pg_name (i := 3) nd rfl (.inl rfl))) (fun _ _ _ _ _ => pts_nil) (fun _ _ _ _ _ => (pi_list (pe_fldI (He.cls_ok (x := "Lot") (T.fa 0 rfl)) (He.noat_ok (x := "Lot") (f := "_members") (T.fa 14 rfl)) (pv 0)))) (fun _ _ _ _ _ => (pg_name (i := 4) nd rfl (.inl rfl))) (fun _ _ _ _ _ => pts_nil) (fun _ _ _ _ _ => (pe_op op_add (pv 4) (pe_op op_mulW (pv 3) (pe_fldI (He.cls_ok (x := "Lot") (T.fa 0 rfl)) (He.noat_ok (x := "Lot") (f := "hours") (T.fa 1 rfl)) (pv 0))))))
    (pss_one (ps_ret (pe_mk1 (He.mkr_ok (x := "Lot") (T.fa 16 rfl)) ⟨ok_Lot_init T, hr.mono (by decide), tk⟩ (hr.mono (by decide)) (T.glo "Lot" (T.fa 17 rfl)) rfl (pa_cons (pe_op op_mulW (pe_fldI (He.cls_ok (x := "Lot") (T.fa 0 rfl)) (He.noat_ok (x := "Lot") (f := "hours") (T.fa 1 rfl)) (pv 0)) (pv 1)) (pa_cons (pv 2) pa_nil)))))))))
    (pure_Lot_pow (T_kf T))
theorem ok_meetings (T : TT w K mg base) : OkF Pg w K mg base 4 (He.ga K "meetings") (sp_meetings K) :=
  okf_of (d := d_meetings) (t := fun E => t_meetings K E) (T.df 14 rfl) sc_meetings (fun _ _ _ _ h => by obtain ⟨_, _, _, _, _, rfl, _⟩ := h; rfl)
    (fun _ _ _ _ _ _ us hl => match us, hl with | [_, _], _ => rfl) (fun cdv A outer s H E nd tk hr =>
    (pss_cons (ps_expr (pe_c1 ⟨ok_rings_checked T, hr.mono (by decide), tk⟩ (T.glo "rings_checked" (T.fa 21 rfl)) (He.keep_ok (x := "rings_checked") (T.fa 22 rfl)) rfl (pa_cons (pv 0) (pa_cons (pv 1) pa_nil))))
    (pss_cons (ps_setLc (i := 2) (own := [("_", 6)]) rfl nd rfl rfl (sw_true rfl rfl rfl (by kernel_rfl)) (pi_range1 rfl (T.free "range" (T.fa 7 rfl)) (pa_cons (pe_fldI (He.cls_ok (x := "Lot") (T.fa 0 rfl)) (He.noat_ok (x := "Lot") (f := "hours") (T.fa 1 rfl)) (pv 0)) pa_nil)) (blkOk_by (own := [("_", 6)]) (by kernel_rfl)) (fun _ _ _ _ _ => (pg_name (i := 6) nd rfl (.inl rfl))) (fun _ _ _ _ _ => pts_nil) (fun _ _ _ _ _ => pe_int))
    (pss_cons (ps_for (passes_of rfl) rfl (pi_own (fnd1 (T.fa 23 rfl)) (fnd2 (T.fa 23 rfl)) (it_Lot T) (hr.mono (by decide)) (pv 0)) (pg_name (i := 3) nd rfl (.inl rfl)) (pss_one (ps_for (passes_of rfl) rfl (pi_own (fnd1 (T.fa 23 rfl)) (fnd2 (T.fa 23 rfl)) (it_Lot T) (hr.mono (by decide)) (pv 1)) (pg_name (i := 4) nd rfl (.inl rfl)) (pss_cons (ps_set (i := 5) nd rfl (.inl rfl) (pe_op op_modN (pe_op op_sub (pv 3) (pv 4)) (pe_fldI (He.cls_ok (x := "Lot") (T.fa 0 rfl)) (He.noat_ok (x := "Lot") (f := "hours") (T.fa 1 rfl)) (pv 0))))
    (pss_one (ps_asg (pe_op op_add (pe_ix ix_list (pv 2) (pv 5) (fun _ _ => rfl)) pe_int) (pg_sub (pv 2) (pv 5) set_list)))))))
    (pss_one (ps_ret (pv 2)))))))
    (pure_meetings (T_kf T))
theorem ok_differences (T : TT w K mg base) : OkF Pg w K mg base 6 (He.ga K "differences") (sp_differences K) :=
  okf_of (d := d_differences) (t := fun E => t_differences K E) (T.df 15 rfl) sc_differences (fun _ _ _ _ h => by obtain ⟨_, _, _, rfl, _⟩ := h; rfl)
    (fun _ _ _ _ _ _ us hl => match us, hl with | [_], _ => rfl) (fun cdv A outer s H E nd tk hr =>
    (pss_one (ps_ret (pe_c1 ⟨ok_meetings T, hr.mono (by decide), tk⟩ (T.glo "meetings" (T.fa 24 rfl)) (He.keep_ok (x := "meetings") (T.fa 25 rfl)) rfl (pa_cons (pv 0) (pa_cons (pv 0) pa_nil))))))
    (pure_differences (T_kf T))
theorem ok_l_cell (T : TT w K mg base) : OkF Pg w K mg base 2 (He.ga K "_law_cell") (sp_l_cell K) :=
  okf_of (d := d_l_cell) (t := fun E => t_l_cell K E) (T.df 16 rfl) sc_l_cell (fun _ _ _ _ h => by obtain ⟨_, _, _, rfl, _⟩ := h; rfl)
    (fun _ _ _ _ _ _ us hl => match us, hl with | [_, _], _ => rfl) (fun cdv A outer s H E nd tk hr =>
    (pss_cons (ps_if (pt_cmpR op_lt (pv 1) (pe_callB call_len_seq rfl (T.free "len" (T.fa 6 rfl)) boot_len (pa_cons (pv 0) pa_nil)) (nomark _)) (pss_one (ps_ret (pe_callB call_abs rfl (T.free "abs" (T.fa 26 rfl)) (by kernel_rfl) (pa_cons (pe_ix ix_list (pv 0) (pv 1) (fun _ _ => rfl)) pa_nil)))) pss_nil)
    (pss_one (ps_ret pe_int))))
    (pure_l_cell (T_kf T))
theorem ok_l_draws (T : TT w K mg base) : OkF Pg w K mg base 2 (He.ga K "_law_draws") (sp_l_draws K) :=
  okf_of (d := d_l_draws) (t := fun E => t_l_draws K E) (T.df 17 rfl) sc_l_draws (fun _ _ _ _ h => by obtain ⟨_, _, _, _, rfl, _⟩ := h; rfl)
    (fun _ _ _ _ _ _ us hl => match us, hl with | [_, _, _], _ => rfl) (fun cdv A outer s H E nd tk hr =>
    (pss_cons (ps_set (i := 3) nd rfl (.inl rfl) (pe_lst pa_nil))
    (pss_cons (ps_set (i := 4) nd rfl (.inl rfl) (pe_op op_sub (pv 0) (pe_op op_pow pe_int pe_int)))
    (pss_cons (ps_set (i := 5) nd rfl (.inl rfl) (pe_op op_add (pv 0) (pe_op op_mulW pe_int (pv 1))))
    (pss_cons (ps_for (passes_of rfl) rfl (pi_range1 rfl (T.free "range" (T.fa 7 rfl)) (pa_cons (pe_callB call_len_seq rfl (T.free "len" (T.fa 6 rfl)) boot_len (pa_cons (pv 2) pa_nil)) pa_nil)) (pg_name (i := 6) nd rfl (.inl rfl)) (pss_one (ps_if (pt_cmpR op_ge (pv 4) pe_int (nomark _)) (pss_cons (ps_expr (pe_bm PySem.F.plainAttrs_list PySem.F.slot_list_append PySem.F.type_list_append mt_append (pv 3) (pa_cons (pe_op op_modN (pe_callTy call_int1 rfl (T.free "int" (T.fa 4 rfl)) (by kernel_rfl) (pa_cons (pv 4) pa_nil)) (pe_ix ix_list (pv 2) (pv 6) (fun _ _ => rfl))) pa_nil)))
    (pss_one (ps_set (i := 4) nd rfl (.inl rfl) (pe_op op_fdivW (pv 4) (pe_ix ix_list (pv 2) (pv 6) (fun _ _ => rfl)))))) (pss_cons (ps_set (i := 5) nd rfl (.inl rfl) (pe_op op_modN (pe_callTy call_int1 rfl (T.free "int" (T.fa 4 rfl)) (by kernel_rfl) (pa_cons (pe_op op_add (pe_op op_add (pe_op op_mulW (pv 5) (pv 5)) (pe_op op_mulW pe_int (pe_op op_add (pv 6) pe_int))) pe_int) pa_nil)) pe_int))
    (pss_cons (ps_set (i := 5) nd rfl (.inl rfl) (pe_op op_modN (pe_callTy call_int1 rfl (T.free "int" (T.fa 4 rfl)) (by kernel_rfl) (pa_cons (pe_op op_add (pe_op op_mulW (pv 5) (pv 5)) (pe_op op_fdivW (pv 5) pe_int)) pa_nil)) pe_int))
    (pss_one (ps_expr (pe_bm PySem.F.plainAttrs_list PySem.F.slot_list_append PySem.F.type_list_append mt_append (pv 3) (pa_cons (pe_op op_modN (pe_callTy call_int1 rfl (T.free "int" (T.fa 4 rfl)) (by kernel_rfl) (pa_cons (pe_op op_fdivW (pv 5) pe_int) pa_nil)) (pe_ix ix_list (pv 2) (pv 6) (fun _ _ => rfl))) pa_nil)))))))))
    (pss_one (ps_ret (pv 3))))))))
    (pure_l_draws (T_kf T))
theorem ok_l_is_int (T : TT w K mg base) : OkF Pg w K mg base 2 (He.ga K "_law_is_int") (sp_l_is_int K) :=
  okf_of (d := d_l_is_int) (t := fun E => t_l_is_int K E) (T.df 18 rfl) sc_l_is_int (fun _ _ _ _ h => by obtain ⟨_, rfl, _⟩ := h; rfl)
    (fun _ _ _ _ _ _ us hl => match us, hl with | [_], _ => rfl) (fun cdv A outer s H E nd tk hr =>
    (pss_one (ps_ret (pe_and (pe_callB call_isi rfl (T.free "isinstance" (T.fa 27 rfl)) (by kernel_rfl) (pa_cons (pv 0) (pa_cons (pe_bltn (v := .ty "int") rfl (T.free "int" (T.fa 4 rfl)) (by kernel_rfl) rfl) pa_nil))) (pe_one (pe_not (pe_callB call_isi rfl (T.free "isinstance" (T.fa 27 rfl)) (by kernel_rfl) (pa_cons (pv 0) (pa_cons (pe_bltn (v := .ty "bool") rfl (T.free "bool" (T.fa 28 rfl)) (by kernel_rfl) rfl) pa_nil)))))))))
    (pure_l_is_int (T_kf T))
theorem ok_l_same_none (T : TT w K mg base) : OkF Pg w K mg base 1 (He.ga K "_law_same") (fun _ _ _ _ => False) := by
  obtain ⟨fd, F⟩ := T.df 19 (d := d_l_same) rfl
  exact ⟨fd, ["got", "due"], ⟨fun _ _ _ _ h => h.elim, fun _ _ _ _ _ _ _ _ _ _ _ _ _ h => h.elim⟩, F.binds (fun _ _ _ _ _ _ us hl => match us, hl with | [_, _], _ => rfl)⟩
theorem ok_l_same_0 (T : TT w K mg base) : OkF Pg w K mg base 4 (He.ga K "_law_same") (sp_l_same 0 K) :=
  okf_of (d := d_l_same) (t := fun E => t_l_same K (fun _ _ _ _ => False) E) (T.df 19 rfl) sc_l_same (fun _ _ _ _ h => by obtain ⟨_, _, _, rfl, _⟩ := h; rfl)
    (fun _ _ _ _ _ _ us hl => match us, hl with | [_, _], _ => rfl) (fun cdv A outer s H E nd tk hr =>
    (pss_cons (ps_if (pt_cmpR op_isN (pv 1) pe_non (nomark _)) (pss_one (ps_ret (pe_cmpR op_isN (pv 0) pe_non (nomark _)))) pss_nil)
    (pss_cons (ps_if (pt_cmpR op_isL (pv 1) pe_bl (nomark _)) (pss_one (ps_ret (pe_cmpR op_isL (pv 0) pe_bl (nomark _)))) pss_nil)
    (pss_cons (ps_if (pt_cmpR op_isL (pv 1) pe_bl (nomark _)) (pss_one (ps_ret (pe_cmpR op_isL (pv 0) pe_bl (nomark _)))) pss_nil)
    (pss_cons (ps_if (pt_val (pe_callB call_isi rfl (T.free "isinstance" (T.fa 27 rfl)) (by kernel_rfl) (pa_cons (pv 1) (pa_cons (pe_bltn (v := .ty "int") rfl (T.free "int" (T.fa 4 rfl)) (by kernel_rfl) rfl) pa_nil)))) (pss_one (ps_ret (pe_and (pe_c1 ⟨ok_l_is_int T, hr.mono (by decide), tk⟩ (T.glo "_law_is_int" (T.fa 29 rfl)) (He.keep_ok (x := "_law_is_int") (T.fa 30 rfl)) rfl (pa_cons (pv 0) pa_nil)) (pe_one (pe_cmpR op_eq (pv 0) (pv 1) (nomark _)))))) pss_nil)
    (pss_cons (ps_if (pt_val (pe_callB call_isi rfl (T.free "isinstance" (T.fa 27 rfl)) (by kernel_rfl) (pa_cons (pv 1) (pa_cons (pe_bltn (v := .ty "str") rfl (T.free "str" (T.fa 31 rfl)) (by kernel_rfl) rfl) pa_nil)))) (pss_one (ps_ret (pe_and (pe_callB call_isi rfl (T.free "isinstance" (T.fa 27 rfl)) (by kernel_rfl) (pa_cons (pv 0) (pa_cons (pe_bltn (v := .ty "str") rfl (T.free "str" (T.fa 31 rfl)) (by kernel_rfl) rfl) pa_nil))) (pe_one (pe_cmpR op_eq (pv 0) (pv 1) (nomark _)))))) pss_nil)
    (pss_cons (ps_if (pt_val (pe_callB call_isi rfl (T.free "isinstance" (T.fa 27 rfl)) (by kernel_rfl) (pa_cons (pv 1) (pa_cons (pe_bltn (v := .ty "tuple") rfl (T.free "tuple" (T.fa 32 rfl)) (by kernel_rfl) rfl) pa_nil)))) (pss_one (ps_if (PW.pt (pw_or (pt_not (pt_val (pe_callB call_isi rfl (T.free "isinstance" (T.fa 27 rfl)) (by kernel_rfl) (pa_cons (pv 0) (pa_cons (pe_bltn (v := .ty "tuple") rfl (T.free "tuple" (T.fa 32 rfl)) (by kernel_rfl) rfl) pa_nil))))) (pw_or1 (pt_cmpR op_ne (pe_callB call_len_seq rfl (T.free "len" (T.fa 6 rfl)) boot_len (pa_cons (pv 0) pa_nil)) (pe_callB call_len_seq rfl (T.free "len" (T.fa 6 rfl)) boot_len (pa_cons (pv 1) pa_nil)) (nomark _))))) (pss_one (ps_ret pe_bl)) pss_nil)) (pss_one (ps_if (PW.pt (pw_or (pt_not (pt_val (pe_callB call_isi rfl (T.free "isinstance" (T.fa 27 rfl)) (by kernel_rfl) (pa_cons (pv 0) (pa_cons (pe_bltn (v := .ty "list") rfl (T.free "list" (T.fa 15 rfl)) (by kernel_rfl) rfl) pa_nil))))) (pw_or1 (pt_cmpR op_ne (pe_callB call_len_seq rfl (T.free "len" (T.fa 6 rfl)) boot_len (pa_cons (pv 0) pa_nil)) (pe_callB call_len_seq rfl (T.free "len" (T.fa 6 rfl)) boot_len (pa_cons (pv 1) pa_nil)) (nomark _))))) (pss_one (ps_ret pe_bl)) pss_nil)))
    (pss_cons (ps_for (passes_of rfl) rfl (pi_range1 rfl (T.free "range" (T.fa 7 rfl)) (pa_cons (pe_callB call_len_seq rfl (T.free "len" (T.fa 6 rfl)) boot_len (pa_cons (pv 1) pa_nil)) pa_nil)) (pg_name (i := 2) nd rfl (.inl rfl)) (pss_one (ps_if (pt_not (pt_val (pe_c1 ⟨ok_l_same_none T, hr.mono (by decide), tk⟩ (T.glo "_law_same" (T.fa 33 rfl)) (He.keep_ok (x := "_law_same") (T.fa 34 rfl)) rfl (pa_cons (pe_alt (pe_ix ix_list (pv 0) (pv 2) (fun _ _ => rfl)) (pe_ix ix_tup (pv 0) (pv 2) (fun _ _ => rfl))) (pa_cons (pe_alt (pe_ix ix_list (pv 1) (pv 2) (fun _ _ => rfl)) (pe_ix ix_tup (pv 1) (pv 2) (fun _ _ => rfl))) pa_nil))))) (pss_one (ps_ret pe_bl)) pss_nil)))
    (pss_one (ps_ret pe_bl))))))))))
    (pure_l_same_0 (T_kf T))
theorem ok_l_same_1 (T : TT w K mg base) : OkF Pg w K mg base 5 (He.ga K "_law_same") (sp_l_same 1 K) :=
  okf_of (d := d_l_same) (t := fun E => t_l_same K (sp_l_same 0 K) E) (T.df 19 rfl) sc_l_same (fun _ _ _ _ h => by obtain ⟨_, _, _, rfl, _⟩ := h; rfl)
    (fun _ _ _ _ _ _ us hl => match us, hl with | [_, _], _ => rfl) (fun cdv A outer s H E nd tk hr =>
    (pss_cons (ps_if (pt_cmpR op_isN (pv 1) pe_non (nomark _)) (pss_one (ps_ret (pe_cmpR op_isN (pv 0) pe_non (nomark _)))) pss_nil)
    (pss_cons (ps_if (pt_cmpR op_isL (pv 1) pe_bl (nomark _)) (pss_one (ps_ret (pe_cmpR op_isL (pv 0) pe_bl (nomark _)))) pss_nil)
    (pss_cons (ps_if (pt_cmpR op_isL (pv 1) pe_bl (nomark _)) (pss_one (ps_ret (pe_cmpR op_isL (pv 0) pe_bl (nomark _)))) pss_nil)
    (pss_cons (ps_if (pt_val (pe_callB call_isi rfl (T.free "isinstance" (T.fa 27 rfl)) (by kernel_rfl) (pa_cons (pv 1) (pa_cons (pe_bltn (v := .ty "int") rfl (T.free "int" (T.fa 4 rfl)) (by kernel_rfl) rfl) pa_nil)))) (pss_one (ps_ret (pe_and (pe_c1 ⟨ok_l_is_int T, hr.mono (by decide), tk⟩ (T.glo "_law_is_int" (T.fa 29 rfl)) (He.keep_ok (x := "_law_is_int") (T.fa 30 rfl)) rfl (pa_cons (pv 0) pa_nil)) (pe_one (pe_cmpR op_eq (pv 0) (pv 1) (nomark _)))))) pss_nil)
    (pss_cons (ps_if (pt_val (pe_callB call_isi rfl (T.free "isinstance" (T.fa 27 rfl)) (by kernel_rfl) (pa_cons (pv 1) (pa_cons (pe_bltn (v := .ty "str") rfl (T.free "str" (T.fa 31 rfl)) (by kernel_rfl) rfl) pa_nil)))) (pss_one (ps_ret (pe_and (pe_callB call_isi rfl (T.free "isinstance" (T.fa 27 rfl)) (by kernel_rfl) (pa_cons (pv 0) (pa_cons (pe_bltn (v := .ty "str") rfl (T.free "str" (T.fa 31 rfl)) (by kernel_rfl) rfl) pa_nil))) (pe_one (pe_cmpR op_eq (pv 0) (pv 1) (nomark _)))))) pss_nil)
    (pss_cons (ps_if (pt_val (pe_callB call_isi rfl (T.free "isinstance" (T.fa 27 rfl)) (by kernel_rfl) (pa_cons (pv 1) (pa_cons (pe_bltn (v := .ty "tuple") rfl (T.free "tuple" (T.fa 32 rfl)) (by kernel_rfl) rfl) pa_nil)))) (pss_one (ps_if (PW.pt (pw_or (pt_not (pt_val (pe_callB call_isi rfl (T.free "isinstance" (T.fa 27 rfl)) (by kernel_rfl) (pa_cons (pv 0) (pa_cons (pe_bltn (v := .ty "tuple") rfl (T.free "tuple" (T.fa 32 rfl)) (by kernel_rfl) rfl) pa_nil))))) (pw_or1 (pt_cmpR op_ne (pe_callB call_len_seq rfl (T.free "len" (T.fa 6 rfl)) boot_len (pa_cons (pv 0) pa_nil)) (pe_callB call_len_seq rfl (T.free "len" (T.fa 6 rfl)) boot_len (pa_cons (pv 1) pa_nil)) (nomark _))))) (pss_one (ps_ret pe_bl)) pss_nil)) (pss_one (ps_if (PW.pt (pw_or (pt_not (pt_val (pe_callB call_isi rfl (T.free "isinstance" (T.fa 27 rfl)) (by kernel_rfl) (pa_cons (pv 0) (pa_cons (pe_bltn (v := .ty "list") rfl (T.free "list" (T.fa 15 rfl)) (by kernel_rfl) rfl) pa_nil))))) (pw_or1 (pt_cmpR op_ne (pe_callB call_len_seq rfl (T.free "len" (T.fa 6 rfl)) boot_len (pa_cons (pv 0) pa_nil)) (pe_callB call_len_seq rfl (T.free "len" (T.fa 6 rfl)) boot_len (pa_cons (pv 1) pa_nil)) (nomark _))))) (pss_one (ps_ret pe_bl)) pss_nil)))
    (pss_cons (ps_for (passes_of rfl) rfl (pi_range1 rfl (T.free "range" (T.fa 7 rfl)) (pa_cons (pe_callB call_len_seq rfl (T.free "len" (T.fa 6 rfl)) boot_len (pa_cons (pv 1) pa_nil)) pa_nil)) (pg_name (i := 2) nd rfl (.inl rfl)) (pss_one (ps_if (pt_not (pt_val (pe_c1 ⟨ok_l_same_0 T, hr.mono (by decide), tk⟩ (T.glo "_law_same" (T.fa 33 rfl)) (He.keep_ok (x := "_law_same") (T.fa 34 rfl)) rfl (pa_cons (pe_alt (pe_ix ix_list (pv 0) (pv 2) (fun _ _ => rfl)) (pe_ix ix_tup (pv 0) (pv 2) (fun _ _ => rfl))) (pa_cons (pe_alt (pe_ix ix_list (pv 1) (pv 2) (fun _ _ => rfl)) (pe_ix ix_tup (pv 1) (pv 2) (fun _ _ => rfl))) pa_nil))))) (pss_one (ps_ret pe_bl)) pss_nil)))
    (pss_one (ps_ret pe_bl))))))))))
    (pure_l_same_1 (T_kf T))
theorem ok_l_bits (T : TT w K mg base) : OkF Pg w K mg base 2 (He.ga K "_law_bits") (sp_l_bits K) :=
  okf_of (d := d_l_bits) (t := fun E => t_l_bits K E) (T.df 20 rfl) sc_l_bits (fun _ _ _ _ h => by obtain ⟨_, _, rfl, _⟩ := h; rfl)
    (fun _ _ _ _ _ _ us hl => match us, hl with | [_, _], _ => rfl) (fun cdv A outer s H E nd tk hr =>
    (pss_cons (ps_set (i := 2) nd rfl (.inl rfl) (pe_lst pa_nil))
    (pss_cons (ps_for (passes_of rfl) rfl (pi_range1 rfl (T.free "range" (T.fa 7 rfl)) (pa_cons (pv 0) pa_nil)) (pg_name (i := 3) nd rfl (.inl rfl)) (pss_cons (ps_if (pt_cmpR op_eq (pe_op op_modN (pe_callTy call_int1 rfl (T.free "int" (T.fa 4 rfl)) (by kernel_rfl) (pa_cons (pv 1) pa_nil)) pe_int) pe_int (nomark _)) (pss_one (ps_expr (pe_bm PySem.F.plainAttrs_list PySem.F.slot_list_append PySem.F.type_list_append mt_append (pv 2) (pa_cons (pv 3) pa_nil)))) pss_nil)
    (pss_one (ps_set (i := 1) nd rfl (.inl rfl) (pe_op op_fdivW (pv 1) pe_int)))))
    (pss_one (ps_ret (pv 2))))))
    (pure_l_bits (T_kf T))
theorem ok_l_subset (T : TT w K mg base) : OkF Pg w K mg base 4 (He.ga K "_law_subset") (sp_l_subset K) :=
  okf_of (d := d_l_subset) (t := fun E => t_l_subset K E) (T.df 21 rfl) sc_l_subset (fun _ _ _ _ h => by obtain ⟨_, _, _, rfl, _⟩ := h; rfl)
    (fun _ _ _ _ _ _ us hl => match us, hl with | [_, _, _], _ => rfl) (fun cdv A outer s H E nd tk hr =>
    (pss_cons (ps_set (i := 3) nd rfl (.inl rfl) (pe_lst pa_nil))
    (pss_cons (ps_set (i := 4) nd rfl (.inl rfl) (pe_c1 ⟨ok_l_draws T, hr.mono (by decide), tk⟩ (T.glo "_law_draws" (T.fa 35 rfl)) (He.keep_ok (x := "_law_draws") (T.fa 36 rfl)) rfl (pa_cons (pv 0) (pa_cons (pv 1) (pa_cons (pe_op op_rep (pe_lst (pa_cons (pe_op op_pow pe_int pe_int) pa_nil)) (pe_op op_add pe_int (pe_op op_fdivW (pe_op op_sub (pv 2) pe_int) pe_int))) pa_nil)))))
    (pss_cons (ps_for (passes_of rfl) rfl (pi_range1 rfl (T.free "range" (T.fa 7 rfl)) (pa_cons (pe_callB call_len_seq rfl (T.free "len" (T.fa 6 rfl)) boot_len (pa_cons (pv 4) pa_nil)) pa_nil)) (pg_name (i := 5) nd rfl (.inr rfl)) (pss_one (ps_set (i := 3) nd rfl (.inl rfl) (pe_op op_cat (pv 3) (pe_lc (own := [("h", 6)]) rfl nd (pi_list (pe_c1 ⟨ok_l_bits T, hr.mono (by decide), tk⟩ (T.glo "_law_bits" (T.fa 37 rfl)) (He.keep_ok (x := "_law_bits") (T.fa 38 rfl)) rfl (pa_cons pe_int (pa_cons (pe_ix ix_list (pv 4) (pv 5) (fun _ _ => rfl)) pa_nil)))) (blkOk_by (own := [("h", 6)]) (by kernel_rfl)) (fun _ _ _ _ _ => (pg_name (i := 6) nd rfl (.inl rfl))) (fun _ _ _ _ _ => pts_one (pt_cmpR op_lt (pe_op op_add (pe_op op_mulW pe_int (pv 5)) (pv 6)) (pv 2) (nomark _))) (fun _ _ _ _ _ => (pe_op op_add (pe_op op_mulW pe_int (pv 5)) (pv 6))))))))
    (pss_one (ps_ret (pv 3)))))))
    (pure_l_subset (T_kf T))
theorem ok_l_gcd (T : TT w K mg base) : OkF Pg w K mg base 2 (He.ga K "_law_gcd") (sp_l_gcd K) :=
  okf_of (d := d_l_gcd) (t := fun E => t_l_gcd K E) (T.df 22 rfl) sc_l_gcd (fun _ _ _ _ h => by obtain ⟨_, _, rfl, _⟩ := h; rfl)
    (fun _ _ _ _ _ _ us hl => match us, hl with | [_, _], _ => rfl) (fun cdv A outer s H E nd tk hr =>
    (pss_cons (ps_while (passes_of rfl) (pt_cmpR op_gt (pv 1) pe_int (nomark _)) (pss_one (ps_par rfl nd rfl rfl (by decide) rfl rfl (pa_cons (pv 1) (pa_cons (pe_op op_modN (pe_callTy call_int1 rfl (T.free "int" (T.fa 4 rfl)) (by kernel_rfl) (pa_cons (pv 0) pa_nil)) (pv 1)) pa_nil)) rfl)))
    (pss_one (ps_ret (pv 0)))))
    (pure_l_gcd (T_kf T))
theorem ok_l_parts (T : TT w K mg base) : OkF Pg w K mg base 2 (He.ga K "_law_parts") (sp_l_parts K) :=
  okf_of (d := d_l_parts) (t := fun E => t_l_parts K E) (T.df 23 rfl) sc_l_parts (fun _ _ _ _ h => by obtain ⟨_, rfl, _⟩ := h; rfl)
    (fun _ _ _ _ _ _ us hl => match us, hl with | [_], _ => rfl) (fun cdv A outer s H E nd tk hr =>
    (pss_one (ps_ret (pe_lc (own := [("part", 1)]) rfl nd (pi_range2 rfl (T.free "range" (T.fa 7 rfl)) (pa_cons pe_int (pa_cons (pe_op op_add (pv 0) pe_int) pa_nil))) (blkOk_by (own := [("part", 1)]) (by kernel_rfl)) (fun _ _ _ _ _ => (pg_name (i := 1) nd rfl (.inl rfl))) (fun _ _ _ _ _ => pts_one (pt_cmpR op_eq (pe_op op_modN (pe_callTy call_int1 rfl (T.free "int" (T.fa 4 rfl)) (by kernel_rfl) (pa_cons (pv 0) pa_nil)) (pv 1)) pe_int (nomark _))) (fun _ _ _ _ _ => (pv 1))))))
    (pure_l_parts (T_kf T))
theorem ok_l_lots (T : TT w K mg base) : OkF Pg w K mg base 6 (He.ga K "_law_lots") (sp_l_lots K) :=
  okf_of (d := d_l_lots) (t := fun E => t_l_lots K E) (T.df 24 rfl) sc_l_lots (fun _ _ _ _ h => by obtain ⟨_, _, _, _, _, rfl, _⟩ := h; rfl)
    (fun _ _ _ _ _ _ us hl => match us, hl with | [_, _, _, _], _ => rfl) (fun cdv A outer s H E nd tk hr =>
    (pss_cons (ps_set (i := 4) nd rfl (.inl rfl) (pe_c1 ⟨ok_l_subset T, hr.mono (by decide), tk⟩ (T.glo "_law_subset" (T.fa 41 rfl)) (He.keep_ok (x := "_law_subset") (T.fa 42 rfl)) rfl (pa_cons (pe_c1 ⟨ok_l_cell T, hr.mono (by decide), tk⟩ (T.glo "_law_cell" (T.fa 39 rfl)) (He.keep_ok (x := "_law_cell") (T.fa 40 rfl)) rfl (pa_cons (pv 0) (pa_cons pe_int pa_nil))) (pa_cons pe_int (pa_cons (pv 1) pa_nil)))))
    (pss_cons (ps_set (i := 5) nd rfl (.inl rfl) (pe_c1 ⟨ok_l_subset T, hr.mono (by decide), tk⟩ (T.glo "_law_subset" (T.fa 41 rfl)) (He.keep_ok (x := "_law_subset") (T.fa 42 rfl)) rfl (pa_cons (pe_c1 ⟨ok_l_cell T, hr.mono (by decide), tk⟩ (T.glo "_law_cell" (T.fa 39 rfl)) (He.keep_ok (x := "_law_cell") (T.fa 40 rfl)) rfl (pa_cons (pv 0) (pa_cons pe_int pa_nil))) (pa_cons pe_int (pa_cons (pv 1) pa_nil)))))
    (pss_cons (ps_if (pt_cmpR op_eq (pv 3) pe_int (nomark _)) (pss_one (ps_ret (pe_tup (pa_cons (pv 4) (pa_cons (pv 5) pa_nil))))) pss_nil)
    (pss_cons (ps_set (i := 6) nd rfl (.inl rfl) (pe_c1 ⟨ok_l_parts T, hr.mono (by decide), tk⟩ (T.glo "_law_parts" (T.fa 43 rfl)) (He.keep_ok (x := "_law_parts") (T.fa 44 rfl)) rfl (pa_cons (pv 1) pa_nil)))
    (pss_cons (ps_set (i := 7) nd rfl (.inr rfl) (pe_ix ix_list (pv 6) (pe_op op_modN (pe_callTy call_int1 rfl (T.free "int" (T.fa 4 rfl)) (by kernel_rfl) (pa_cons (pv 2) pa_nil)) (pe_callB call_len_seq rfl (T.free "len" (T.fa 6 rfl)) boot_len (pa_cons (pv 6) pa_nil))) (fun _ _ => rfl)))
    (pss_one (ps_ret (pe_tup (pa_cons (pe_lc (own := [("h", 8)]) rfl nd (pi_list (pv 4)) (blkOk_by (own := [("h", 8)]) (by kernel_rfl)) (fun _ _ _ _ _ => (pg_name (i := 8) nd rfl (.inl rfl))) (fun _ _ _ _ _ => pts_one (pt_cmpR op_lt (pv 8) (pv 7) (nomark _))) (fun _ _ _ _ _ => (pv 8))) (pa_cons (pe_lc (own := [("h", 8)]) rfl nd (pi_list (pv 5)) (blkOk_by (own := [("h", 8)]) (by kernel_rfl)) (fun _ _ _ _ _ => (pg_name (i := 8) nd rfl (.inl rfl))) (fun _ _ _ _ _ => pts_one (pt_cmpR op_eq (pe_op op_modN (pe_callTy call_int1 rfl (T.free "int" (T.fa 4 rfl)) (by kernel_rfl) (pa_cons (pv 8) pa_nil)) (pv 7)) pe_int (nomark _))) (fun _ _ _ _ _ => (pv 8))) pa_nil)))))))))))
    (pure_l_lots (T_kf T))
theorem ok_l_counts (T : TT w K mg base) : OkF Pg w K mg base 2 (He.ga K "_law_counts") (sp_l_counts K) :=
  okf_of (d := d_l_counts) (t := fun E => t_l_counts K E) (T.df 25 rfl) sc_l_counts (fun _ _ _ _ h => by obtain ⟨_, _, _, rfl, _⟩ := h; rfl)
    (fun _ _ _ _ _ _ us hl => match us, hl with | [_, _], _ => rfl) (fun cdv A outer s H E nd tk hr =>
    (pss_cons (ps_set (i := 2) nd rfl (.inr rfl) (pe_lc (own := [("h", 5)]) rfl nd (pi_range1 rfl (T.free "range" (T.fa 7 rfl)) (pa_cons (pv 1) pa_nil)) (blkOk_by (own := [("h", 5)]) (by kernel_rfl)) (fun _ _ _ _ _ => (pg_name (i := 5) nd rfl (.inl rfl))) (fun _ _ _ _ _ => pts_nil) (fun _ _ _ _ _ => (pe_cmpR op_in_seq (pv 5) (pv 0) rfl))))
    (pss_cons (ps_set (i := 3) nd rfl (.inl rfl) (pe_lst pa_nil))
    (pss_cons (ps_for (passes_of rfl) rfl (pi_range1 rfl (T.free "range" (T.fa 7 rfl)) (pa_cons (pv 1) pa_nil)) (pg_name (i := 4) nd rfl (.inr rfl)) (pss_one (ps_expr (pe_bm PySem.F.plainAttrs_list PySem.F.slot_list_append PySem.F.type_list_append mt_append (pv 3) (pa_cons (pe_callB call_len_seq rfl (T.free "len" (T.fa 6 rfl)) boot_len (pa_cons (pe_lc (own := [("h", 5)]) rfl nd (pi_list (pv 0)) (blkOk_by (own := [("h", 5)]) (by kernel_rfl)) (fun _ _ _ _ _ => (pg_name (i := 5) nd rfl (.inl rfl))) (fun _ _ _ _ _ => pts_one (pt_val (pe_ix ix_list (pv 2) (pe_op op_modN (pe_callTy call_int1 rfl (T.free "int" (T.fa 4 rfl)) (by kernel_rfl) (pa_cons (pe_op op_add (pv 5) (pv 4)) pa_nil)) (pv 1)) (fun _ _ => rfl)))) (fun _ _ _ _ _ => (pv 5))) pa_nil)) pa_nil)))))
    (pss_one (ps_ret (pv 3)))))))
    (pure_l_counts (T_kf T))
theorem ok_l_met (T : TT w K mg base) : OkF Pg w K mg base 2 (He.ga K "_law_met") (sp_l_met K) :=
  okf_of (d := d_l_met) (t := fun E => t_l_met K E) (T.df 26 rfl) sc_l_met (fun _ _ _ _ h => by obtain ⟨_, _, _, rfl, _⟩ := h; rfl)
    (fun _ _ _ _ _ _ us hl => match us, hl with | [_, _], _ => rfl) (fun cdv A outer s H E nd tk hr =>
    (pss_cons (ps_set (i := 2) nd rfl (.inl rfl) (pe_op op_rep (pe_lst (pa_cons pe_int pa_nil)) (pv 1)))
    (pss_cons (ps_for (passes_of rfl) rfl (pi_list (pv 0)) (pg_name (i := 3) nd rfl (.inl rfl)) (pss_one (ps_asg (pe_op op_add (pe_ix ix_list (pv 2) (pv 3) (fun _ _ => rfl)) pe_int) (pg_sub (pv 2) (pv 3) set_list))))
    (pss_one (ps_ret (pv 2))))))
    (pure_l_met (T_kf T))
theorem ok_l_fold (T : TT w K mg base) : OkF Pg w K mg base 2 (He.ga K "_law_fold") (sp_l_fold K) :=
  okf_of (d := d_l_fold) (t := fun E => t_l_fold K E) (T.df 27 rfl) sc_l_fold (fun _ _ _ _ h => by obtain ⟨_, _, _, _, _, rfl, _⟩ := h; rfl)
    (fun _ _ _ _ _ _ us hl => match us, hl with | [_, _, _], _ => rfl) (fun cdv A outer s H E nd tk hr =>
    (pss_one (ps_ret (pe_lc (own := [("d", 3)]) rfl nd (pi_range1 rfl (T.free "range" (T.fa 7 rfl)) (pa_cons (pv 2) pa_nil)) (blkOk_by (own := [("d", 3)]) (by kernel_rfl)) (fun _ _ _ _ _ => (pg_name (i := 3) nd rfl (.inr rfl))) (fun _ _ _ _ _ => pts_nil) (fun _ _ _ _ _ => (pe_callB (cr_sum rfl) rfl (T.free "sum" (T.fa 45 rfl)) (by kernel_rfl) (pa_cons (pe_lc (own := [("e", 4)]) rfl nd (pi_range1 rfl (T.free "range" (T.fa 7 rfl)) (pa_cons (pv 2) pa_nil)) (blkOk_by (own := [("e", 4)]) (by kernel_rfl)) (fun _ _ _ _ _ => (pg_name (i := 4) nd rfl (.inl rfl))) (fun _ _ _ _ _ => pts_nil) (fun _ _ _ _ _ => (pe_op op_mulW (pe_ix ix_list (pv 0) (pv 4) (fun _ _ => rfl)) (pe_ix ix_list (pv 1) (pe_op op_modN (pe_callTy call_int1 rfl (T.free "int" (T.fa 4 rfl)) (by kernel_rfl) (pa_cons (pe_op op_sub (pv 3) (pv 4)) pa_nil)) (pv 2)) (fun _ _ => rfl))))) pa_nil)))))))
    (pure_l_fold (T_kf T))
theorem ok_l_is_lot (T : TT w K mg base) : OkF Pg w K mg base 7 (He.ga K "_law_is_lot") (sp_l_is_lot K) :=
  okf_of (d := d_l_is_lot) (t := fun E => t_l_is_lot K E) (T.df 28 rfl) sc_l_is_lot (fun _ _ _ _ h => by obtain ⟨_, _, _, _, rfl, _⟩ := h; rfl)
    (fun _ _ _ _ _ _ us hl => match us, hl with | [_, _, _], _ => rfl) (fun cdv A outer s H E nd tk hr =>
    (pss_one (ps_ret (pe_and (pe_callB call_isi rfl (T.free "isinstance" (T.fa 27 rfl)) (by kernel_rfl) (pa_cons (pv 0) (pa_cons (pe_glob (v := .ref (He.ga K "Lot")) rfl (T.glo "Lot" (T.fa 17 rfl)) rfl) pa_nil))) (pe_and (pe_c1 ⟨ok_l_same_1 T, hr.mono (by decide), tk⟩ (T.glo "_law_same" (T.fa 33 rfl)) (He.keep_ok (x := "_law_same") (T.fa 34 rfl)) rfl (pa_cons (pe_fldI (He.cls_ok (x := "Lot") (T.fa 0 rfl)) (He.noat_ok (x := "Lot") (f := "hours") (T.fa 1 rfl)) (pv 0)) (pa_cons (pv 1) pa_nil))) (pe_one (pe_c1 ⟨ok_l_same_1 T, hr.mono (by decide), tk⟩ (T.glo "_law_same" (T.fa 33 rfl)) (He.keep_ok (x := "_law_same") (T.fa 34 rfl)) rfl (pa_cons (pe_propI (He.cls_ok (x := "Lot") (T.fa 0 rfl)) (propB_ok (T.fa 46 rfl)) ⟨ok_Lot_members T, hr.mono (by decide)⟩ (pv 0)) (pa_cons (pv 2) pa_nil)))))))))
    (pure_l_is_lot (T_kf T))
theorem ok_l_factor (T : TT w K mg base) : OkF Pg w K mg base 4 (He.ga K "_law_factor") (sp_l_factor K) :=
  okf_of (d := d_l_factor) (t := fun E => t_l_factor K E) (T.df 29 rfl) sc_l_factor (fun _ _ _ _ h => by obtain ⟨_, _, rfl, _⟩ := h; rfl)
    (fun _ _ _ _ _ _ us hl => match us, hl with | [_, _], _ => rfl) (fun cdv A outer s H E nd tk hr =>
    (pss_cons (ps_setLc (i := 2) (own := [("t", 3)]) rfl nd rfl rfl (sw_true rfl rfl rfl (by kernel_rfl)) (pi_range2 rfl (T.free "range" (T.fa 7 rfl)) (pa_cons pe_int (pa_cons (pe_op op_add (pv 0) pe_int) pa_nil))) (blkOk_by (own := [("t", 3)]) (by kernel_rfl)) (fun _ _ _ _ _ => (pg_name (i := 3) nd rfl (.inl rfl))) (fun _ _ _ _ _ => pts_one (pt_cmpR op_eq (pe_c1 ⟨ok_l_gcd T, hr.mono (by decide), takes0⟩ (T.glo "_law_gcd" (T.fa 47 rfl)) (He.keep_ok (x := "_law_gcd") (T.fa 48 rfl)) rfl (pa_cons (pv 3) (pa_cons (pv 0) pa_nil))) pe_int (nomark _))) (fun _ _ _ _ _ => (pv 3)))
    (pss_one (ps_ret (pe_op op_add (pe_ix ix_list (pv 2) (pe_op op_modN (pe_callTy call_int1 rfl (T.free "int" (T.fa 4 rfl)) (by kernel_rfl) (pa_cons (pv 1) pa_nil)) (pe_callB call_len_seq rfl (T.free "len" (T.fa 6 rfl)) boot_len (pa_cons (pv 2) pa_nil))) (fun _ _ => rfl)) (pe_op op_mulW (pv 0) (pe_op op_sub (pv 1) pe_int)))))))
    (pure_l_factor (T_kf T))
theorem ok_l_shift (T : TT w K mg base) : OkF Pg w K mg base 2 (He.ga K "_law_shift") (sp_l_shift K) :=
  okf_of (d := d_l_shift) (t := fun E => t_l_shift K E) (T.df 30 rfl) sc_l_shift (fun _ _ _ _ h => by obtain ⟨_, rfl, _⟩ := h; rfl)
    (fun _ _ _ _ _ _ us hl => match us, hl with | [_], _ => rfl) (fun cdv A outer s H E nd tk hr =>
    (pss_one (ps_ret (pe_op op_add (pe_op op_mulW (pe_op op_sub (pv 0) pe_int) (pe_op op_pow pe_int pe_int)) (pv 0)))))
    (pure_l_shift (T_kf T))
theorem ok_l_part (T : TT w K mg base) : OkF Pg w K mg base 4 (He.ga K "_law_part") (sp_l_part K) :=
  okf_of (d := d_l_part) (t := fun E => t_l_part K E) (T.df 31 rfl) sc_l_part (fun _ _ _ _ h => by obtain ⟨_, _, rfl, _⟩ := h; rfl)
    (fun _ _ _ _ _ _ us hl => match us, hl with | [_, _], _ => rfl) (fun cdv A outer s H E nd tk hr =>
    (pss_cons (ps_set (i := 2) nd rfl (.inl rfl) (pe_c1 ⟨ok_l_parts T, hr.mono (by decide), tk⟩ (T.glo "_law_parts" (T.fa 43 rfl)) (He.keep_ok (x := "_law_parts") (T.fa 44 rfl)) rfl (pa_cons (pv 0) pa_nil)))
    (pss_one (ps_ret (pe_ix ix_list (pv 2) (pe_op op_modN (pe_callTy call_int1 rfl (T.free "int" (T.fa 4 rfl)) (by kernel_rfl) (pa_cons (pv 1) pa_nil)) (pe_callB call_len_seq rfl (T.free "len" (T.fa 6 rfl)) boot_len (pa_cons (pv 2) pa_nil))) (fun _ _ => rfl))))))
    (pure_l_part (T_kf T))
theorem ok_l_kind (T : TT w K mg base) : OkF Pg w K mg base 2 (He.ga K "_law_kind") (sp_l_kind K) :=
  okf_of (d := d_l_kind) (t := fun E => t_l_kind K E) (T.df 32 rfl) sc_l_kind (fun _ _ _ _ h => by obtain ⟨_, _, _, rfl, _⟩ := h; rfl)
    (fun _ _ _ _ _ _ us hl => match us, hl with | [_, _, _], _ => rfl) (fun cdv A outer s H E nd tk hr =>
    (pss_cons (ps_if (PW.pt (pw_and (pt_cmpR op_eq (pv 1) pe_int (nomark _)) (pw_and1 (pt_cmpR op_gt (pe_op op_mulW (pv 0) (pe_op op_add pe_int (pe_op op_modN (pe_callTy call_int1 rfl (T.free "int" (T.fa 4 rfl)) (by kernel_rfl) (pa_cons (pv 2) pa_nil)) pe_int))) pe_int (nomark _))))) (pss_one (ps_ret pe_int)) pss_nil)
    (pss_one (ps_ret (pv 1)))))
    (pure_l_kind (T_kf T))
theorem ok_l_done (T : TT w K mg base) : OkF Pg w K mg base 10 (He.ga K "_law_done") (sp_l5_done K) :=
  okf_of (d := d_l_done) (t := fun E => t_l_done K E) (T.df 33 rfl) sc_l_done (fun _ _ _ _ h => by obtain ⟨_, _, _, _, _, rfl, _⟩ := h; rfl)
    (fun _ _ _ _ _ _ us hl => match us, hl with | [_, _, _, _], _ => rfl) (fun cdv A outer s H E nd tk hr =>
    (pss_cons (ps_if (pt_cmpR op_eq (pv 2) pe_int (nomark _)) (pss_one (ps_ret (pe_binN (op := .LShift) (opF_ok (T.fa 51 rfl)) ⟨ok_Lot_lshift T, hr.mono (by decide), tk⟩ (by kernel_rfl) (by kernel_rfl) (pv 0) (pe_c1 ⟨ok_l_shift T, hr.mono (by decide), tk⟩ (T.glo "_law_shift" (T.fa 49 rfl)) (He.keep_ok (x := "_law_shift") (T.fa 50 rfl)) rfl (pa_cons (pv 3) pa_nil))))) pss_nil)
    (pss_cons (ps_if (pt_cmpR op_eq (pv 2) pe_int (nomark _)) (pss_one (ps_ret (pe_binN (op := .RShift) (opF_ok (T.fa 52 rfl)) ⟨ok_Lot_rshift T, hr.mono (by decide), tk⟩ (by kernel_rfl) (by kernel_rfl) (pv 0) (pe_c1 ⟨ok_l_shift T, hr.mono (by decide), tk⟩ (T.glo "_law_shift" (T.fa 49 rfl)) (He.keep_ok (x := "_law_shift") (T.fa 50 rfl)) rfl (pa_cons (pv 3) pa_nil))))) pss_nil)
    (pss_cons (ps_if (pt_cmpR op_eq (pv 2) pe_int (nomark _)) (pss_one (ps_ret (pe_negI (fnd1 (T.fa 53 rfl)) (fnd2 (T.fa 53 rfl)) ⟨ok_Lot_neg T, hr.mono (by decide), tk⟩ (pv 0)))) pss_nil)
    (pss_cons (ps_if (pt_cmpR op_eq (pv 2) pe_int (nomark _)) (pss_one (ps_ret (pe_invI (fnd1 (T.fa 54 rfl)) (fnd2 (T.fa 54 rfl)) ⟨ok_Lot_invert T, hr.mono (by decide), tk⟩ (pv 0)))) pss_nil)
    (pss_cons (ps_if (PW.pt (pw_and (pt_cmpR op_eq (pv 2) pe_int (nomark _)) (pw_and1 (pt_cmpR op_eq (pe_op op_modN (pe_callTy call_int1 rfl (T.free "int" (T.fa 4 rfl)) (by kernel_rfl) (pa_cons (pv 3) pa_nil)) pe_int) pe_int (nomark _))))) (pss_one (ps_ret (pe_binN (op := .Mult) (opF_ok (T.fa 20 rfl)) ⟨ok_Lot_mul T, hr.mono (by decide), tk⟩ (by kernel_rfl) (by kernel_rfl) (pv 0) (pe_c1 ⟨ok_l_factor T, hr.mono (by decide), tk⟩ (T.glo "_law_factor" (T.fa 55 rfl)) (He.keep_ok (x := "_law_factor") (T.fa 56 rfl)) rfl (pa_cons (pv 1) (pa_cons (pv 3) pa_nil)))))) pss_nil)
    (pss_cons (ps_if (pt_cmpR op_eq (pv 2) pe_int (nomark _)) (pss_one (ps_ret (pe_refI (opF_ok (T.fa 20 rfl)) (fnd1 (T.fa 57 rfl)) (fnd2 (T.fa 57 rfl)) (of_decide_eq_true (T.fa 58 rfl)) ⟨ok_Lot_rmul T, hr.mono (by decide), tk⟩ (pe_c1 ⟨ok_l_factor T, hr.mono (by decide), tk⟩ (T.glo "_law_factor" (T.fa 55 rfl)) (He.keep_ok (x := "_law_factor") (T.fa 56 rfl)) rfl (pa_cons (pv 1) (pa_cons (pv 3) pa_nil))) (pv 0)))) pss_nil)
    (pss_cons (ps_if (PW.pt (pw_and (pt_cmpR op_eq (pv 2) pe_int (nomark _)) (pw_and1 (pt_cmpR op_eq (pe_op op_modN (pe_callTy call_int1 rfl (T.free "int" (T.fa 4 rfl)) (by kernel_rfl) (pa_cons (pv 3) pa_nil)) pe_int) pe_int (nomark _))))) (pss_one (ps_ret (pe_binN (op := .Pow) (opF_ok (T.fa 59 rfl)) ⟨ok_Lot_pow T, hr.mono (by decide), tk⟩ (by kernel_rfl) (by kernel_rfl) (pv 0) pe_int))) pss_nil)
    (pss_cons (ps_if (pt_cmpR op_eq (pv 2) pe_int (nomark _)) (pss_one (ps_ret (pe_binN (op := .Pow) (opF_ok (T.fa 59 rfl)) ⟨ok_Lot_pow T, hr.mono (by decide), tk⟩ (by kernel_rfl) (by kernel_rfl) (pv 0) pe_int))) pss_nil)
    (pss_one (ps_ret (pe_binN (op := .Mod) (opF_ok (T.fa 62 rfl)) ⟨ok_Lot_mod T, hr.mono (by decide), tk⟩ (by kernel_rfl) (by kernel_rfl) (pv 0) (pe_c1 ⟨ok_l_part T, hr.mono (by decide), tk⟩ (T.glo "_law_part" (T.fa 60 rfl)) (He.keep_ok (x := "_law_part") (T.fa 61 rfl)) rfl (pa_cons (pv 1) (pa_cons (pv 3) pa_nil)))))))))))))))
    (pure_l_done (T_kf T))
theorem ok_l_sum (T : TT w K mg base) : OkF Pg w K mg base 8 (He.ga K "_law_sum") (sp_l5_sum K) :=
  okf_of (d := d_l_sum) (t := fun E => t_l_sum K E) (T.df 34 rfl) sc_l_sum (fun _ _ _ _ h => by obtain ⟨_, _, _, _, _, rfl, _⟩ := h; rfl)
    (fun _ _ _ _ _ _ us hl => match us, hl with | [_, _], _ => rfl) (fun cdv A outer s H E nd tk hr =>
    (pss_cons (ps_set (i := 2) nd rfl (.inl rfl) pe_non)
    (pss_cons (ps_tryH (tb := fun W => (tAsg (tBinI (He.ga K "Lot") (sp_Lot_add K) W (tVar 0) (tVar 1)) (gName 2))) rfl rfl nd tk (fun W pn xe tkT pO => (pss_one (ps_set (i := 2) nd rfl (.inl rfl) (pe_binI (op := .Add) (opF_ok (T.fa 63 rfl)) ⟨ok_Lot_add T, hr.mono (by decide), tkT⟩ (pv 0) (pv 1))))) (HsOk.cons (o := (some 3)) (ts := fun a cls d => (tAsg (tTup (tCons (tC (.str "Meets")) (tCons (tXf a cls d (He.ga K "Meets") "hour" (tVar 3)) tNil))) (gName 2))) ⟨rfl, by decide, .inl (T.glo "Meets" (T.fa 64 rfl))⟩ ⟨rfl, rfl⟩ (fun a oe cls d pn hz hf => (pss_one (ps_set (i := 2) nd rfl (.inl rfl) (pe_tup (pa_cons pe_str (pa_cons (pe_xf (C := He.ga K "Meets") (xfB_ok (T.fa 65 rfl)) (He.noat_ok (x := "Meets") (f := "hour") (T.fa 66 rfl)) hz hf (pv 3)) pa_nil)))))) .nil))
    (pss_one (ps_ret (pv 2))))))
    (pure_l_sum (T_kf T))
theorem ok_l_told (T : TT w K mg base) : OkF Pg w K mg base 12 (He.ga K "_law_told") (sp_l5_told K) :=
  okf_of (d := d_l_told) (t := fun E => t_l_told K E) (T.df 35 rfl) sc_l_told (fun _ _ _ _ h => by obtain ⟨_, _, _, _, _, rfl, _⟩ := h; rfl)
    (fun _ _ _ _ _ _ us hl => match us, hl with | [_, _, _, _], _ => rfl) (fun cdv A outer s H E nd tk hr =>
    (pss_cons (ps_set (i := 4) nd rfl (.inl rfl) pe_non)
    (pss_cons (ps_tryH (tb := fun W => (tAsg (tC1 (sp_l5_done K) W (tCons (tVar 0) (tCons (tVar 1) (tCons (tVar 2) (tCons (tVar 3) tNil))))) (gName 4))) rfl rfl nd tk (fun W pn xe tkT pO => (pss_one (ps_set (i := 4) nd rfl (.inl rfl) (pe_c1 ⟨ok_l_done T, hr.mono (by decide), tkT⟩ (T.glo "_law_done" (T.fa 67 rfl)) (He.keep_ok (x := "_law_done") (T.fa 68 rfl)) rfl (pa_cons (pv 0) (pa_cons (pv 1) (pa_cons (pv 2) (pa_cons (pv 3) pa_nil)))))))) (HsOk.cons (o := (some 5)) (ts := fun a cls d => (tAsg (tTup (tCons (tC (.str "Meets")) (tCons (tXf a cls d (He.ga K "Meets") "hour" (tVar 5)) tNil))) (gName 4))) ⟨rfl, by decide, .inl (T.glo "Meets" (T.fa 64 rfl))⟩ ⟨rfl, rfl⟩ (fun a oe cls d pn hz hf => (pss_one (ps_set (i := 4) nd rfl (.inl rfl) (pe_tup (pa_cons pe_str (pa_cons (pe_xf (C := He.ga K "Meets") (xfB_ok (T.fa 65 rfl)) (He.noat_ok (x := "Meets") (f := "hour") (T.fa 66 rfl)) hz hf (pv 5)) pa_nil)))))) .nil))
    (pss_one (ps_ret (pv 4))))))
    (pure_l_told (T_kf T))
theorem ok_l_copied_due (T : TT w K mg base) : OkF Pg w K mg base 2 (He.ga K "_law_copied_due") (sp_l_copied_due K) :=
  okf_of (d := d_l_copied_due) (t := fun E => t_l_copied_due K E) (T.df 36 rfl) sc_l_copied_due (fun _ _ _ _ h => by obtain ⟨_, _, _, _, _, _, rfl, _⟩ := h; rfl)
    (fun _ _ _ _ _ _ us hl => match us, hl with | [_, _, _, _], _ => rfl) (fun cdv A outer s H E nd tk hr =>
    (pss_cons (ps_set (i := 4) nd rfl (.inl rfl) (pe_lst pa_nil))
    (pss_cons (ps_for (passes_of rfl) rfl (pi_range1 rfl (T.free "range" (T.fa 7 rfl)) (pa_cons (pv 3) pa_nil)) (pg_name (i := 5) nd rfl (.inr rfl)) (pss_one (ps_set (i := 4) nd rfl (.inl rfl) (pe_op op_cat (pv 4) (pe_lc (own := [("h", 6)]) rfl nd (pi_list (pv 0)) (blkOk_by (own := [("h", 6)]) (by kernel_rfl)) (fun _ _ _ _ _ => (pg_name (i := 6) nd rfl (.inl rfl))) (fun _ _ _ _ _ => pts_nil) (fun _ _ _ _ _ => (pe_op op_add (pv 6) (pe_op op_mulW (pv 5) (pv 2)))))))))
    (pss_one (ps_ret (pe_tup (pa_cons (pe_op op_mulW (pv 2) (pv 3)) (pa_cons (pv 4) (pa_cons (pe_lc (own := [("d", 7)]) rfl nd (pi_range1 rfl (T.free "range" (T.fa 7 rfl)) (pa_cons (pe_op op_mulW (pv 2) (pv 3)) pa_nil)) (blkOk_by (own := [("d", 7)]) (by kernel_rfl)) (fun _ _ _ _ _ => (pg_name (i := 7) nd rfl (.inl rfl))) (fun _ _ _ _ _ => pts_nil) (fun _ _ _ _ _ => (pe_op op_mulW (pv 3) (pe_ix ix_list (pv 1) (pe_op op_modN (pe_callTy call_int1 rfl (T.free "int" (T.fa 4 rfl)) (by kernel_rfl) (pa_cons (pv 7) pa_nil)) (pv 2)) (fun _ _ => rfl))))) pa_nil)))))))))
    (pure_l_copied_due (T_kf T))
theorem ok_l_residues_due (T : TT w K mg base) : OkF Pg w K mg base 4 (He.ga K "_law_residues_due") (sp_l_residues_due K) :=
  okf_of (d := d_l_residues_due) (t := fun E => t_l_residues_due K E) (T.df 37 rfl) sc_l_residues_due (fun _ _ _ _ h => by obtain ⟨_, _, _, _, _, _, rfl, _⟩ := h; rfl)
    (fun _ _ _ _ _ _ us hl => match us, hl with | [_, _, _, _], _ => rfl) (fun cdv A outer s H E nd tk hr =>
    (pss_cons (ps_set (i := 4) nd rfl (.inr rfl) (pe_c1 ⟨ok_l_met T, hr.mono (by decide), tk⟩ (T.glo "_law_met" (T.fa 69 rfl)) (He.keep_ok (x := "_law_met") (T.fa 70 rfl)) rfl (pa_cons (pe_lc (own := [("h", 7)]) rfl nd (pi_list (pv 0)) (blkOk_by (own := [("h", 7)]) (by kernel_rfl)) (fun _ _ _ _ _ => (pg_name (i := 7) nd rfl (.inl rfl))) (fun _ _ _ _ _ => pts_nil) (fun _ _ _ _ _ => (pe_op op_modN (pe_callTy call_int1 rfl (T.free "int" (T.fa 4 rfl)) (by kernel_rfl) (pa_cons (pv 7) pa_nil)) (pv 3)))) (pa_cons (pv 3) pa_nil))))
    (pss_cons (ps_setLc (i := 5) (own := [("h", 7)]) rfl nd rfl rfl (sw_true rfl rfl rfl (by kernel_rfl)) (pi_range1 rfl (T.free "range" (T.fa 7 rfl)) (pa_cons (pv 3) pa_nil)) (blkOk_by (own := [("h", 7)]) (by kernel_rfl)) (fun _ _ _ _ _ => (pg_name (i := 7) nd rfl (.inl rfl))) (fun _ _ _ _ _ => pts_one (pt_cmpR op_gt (pe_ix ix_list (pv 4) (pv 7) (fun _ _ => rfl)) pe_int (nomark _))) (fun _ _ _ _ _ => (pv 7)))
    (pss_cons (ps_if (pt_cmpR op_gt (pe_callB call_len_seq rfl (T.free "len" (T.fa 6 rfl)) boot_len (pa_cons (pv 5) pa_nil)) pe_int (nomark _)) (pss_one (ps_ret (pe_tup (pa_cons pe_str (pa_cons (pe_ix ix_list (pv 5) pe_int (fun _ _ => rfl)) pa_nil))))) pss_nil)
    (pss_cons (ps_setLc (i := 6) (own := [("d", 8)]) rfl nd rfl rfl (sw_true rfl rfl rfl (by kernel_rfl)) (pi_range1 rfl (T.free "range" (T.fa 7 rfl)) (pa_cons (pv 3) pa_nil)) (blkOk_by (own := [("d", 8)]) (by kernel_rfl)) (fun _ _ _ _ _ => (pg_name (i := 8) nd rfl (.inl rfl))) (fun _ _ _ _ _ => pts_nil) (fun _ _ _ _ _ => (pe_callB (cr_sum rfl) rfl (T.free "sum" (T.fa 45 rfl)) (by kernel_rfl) (pa_cons (pe_lc (own := [("e", 9)]) rfl nd (pi_range3 rfl (T.free "range" (T.fa 7 rfl)) (pa_cons (pv 8) (pa_cons (pv 2) (pa_cons (pv 3) pa_nil)))) (blkOk_by (own := [("e", 9)]) (by kernel_rfl)) (fun _ _ _ _ _ => (pg_name (i := 9) nd rfl (.inl rfl))) (fun _ _ _ _ _ => pts_nil) (fun _ _ _ _ _ => (pe_ix ix_list (pv 1) (pv 9) (fun _ _ => rfl)))) pa_nil))))
    (pss_one (ps_ret (pe_tup (pa_cons (pv 3) (pa_cons (pe_lc (own := [("h", 7)]) rfl nd (pi_range1 rfl (T.free "range" (T.fa 7 rfl)) (pa_cons (pv 3) pa_nil)) (blkOk_by (own := [("h", 7)]) (by kernel_rfl)) (fun _ _ _ _ _ => (pg_name (i := 7) nd rfl (.inl rfl))) (fun _ _ _ _ _ => pts_one (pt_cmpR op_eq (pe_ix ix_list (pv 4) (pv 7) (fun _ _ => rfl)) pe_int (nomark _))) (fun _ _ _ _ _ => (pv 7))) (pa_cons (pv 6) pa_nil)))))))))))
    (pure_l_residues_due (T_kf T))
theorem ok_l_due (T : TT w K mg base) : OkF Pg w K mg base 6 (He.ga K "_law_due") (sp_l_due K) :=
  okf_of (d := d_l_due) (t := fun E => t_l_due K E) (T.df 38 rfl) sc_l_due (fun _ _ _ _ h => by obtain ⟨_, _, _, _, _, _, _, rfl, _⟩ := h; rfl)
    (fun _ _ _ _ _ _ us hl => match us, hl with | [_, _, _, _, _], _ => rfl) (fun cdv A outer s H E nd tk hr =>
    (pss_cons (ps_if (pt_cmpR op_eq (pv 3) pe_int (nomark _)) (pss_one (ps_ret (pe_c1 ⟨ok_l_copied_due T, hr.mono (by decide), tk⟩ (T.glo "_law_copied_due" (T.fa 71 rfl)) (He.keep_ok (x := "_law_copied_due") (T.fa 72 rfl)) rfl (pa_cons (pv 0) (pa_cons (pv 1) (pa_cons (pv 2) (pa_cons (pe_op op_add pe_int (pe_op op_modN (pe_callTy call_int1 rfl (T.free "int" (T.fa 4 rfl)) (by kernel_rfl) (pa_cons (pv 4) pa_nil)) pe_int)) pa_nil))))))) pss_nil)
    (pss_cons (ps_if (pt_cmpR op_eq (pv 3) pe_int (nomark _)) (pss_one (ps_ret (pe_c1 ⟨ok_l_residues_due T, hr.mono (by decide), tk⟩ (T.glo "_law_residues_due" (T.fa 73 rfl)) (He.keep_ok (x := "_law_residues_due") (T.fa 74 rfl)) rfl (pa_cons (pv 0) (pa_cons (pv 1) (pa_cons (pv 2) (pa_cons (pe_c1 ⟨ok_l_part T, hr.mono (by decide), tk⟩ (T.glo "_law_part" (T.fa 60 rfl)) (He.keep_ok (x := "_law_part") (T.fa 61 rfl)) rfl (pa_cons (pv 2) (pa_cons (pv 4) pa_nil))) pa_nil))))))) pss_nil)
    (pss_cons (ps_if (pt_cmpR op_eq (pv 3) pe_int (nomark _)) (pss_one (ps_ret (pe_tup (pa_cons (pv 2) (pa_cons (pe_lc (own := [("h", 9)]) rfl nd (pi_range1 rfl (T.free "range" (T.fa 7 rfl)) (pa_cons (pv 2) pa_nil)) (blkOk_by (own := [("h", 9)]) (by kernel_rfl)) (fun _ _ _ _ _ => (pg_name (i := 9) nd rfl (.inl rfl))) (fun _ _ _ _ _ => pts_one (pt_cmpR op_notIn_seq (pv 9) (pv 0) rfl)) (fun _ _ _ _ _ => (pv 9))) (pa_cons (pe_lc (own := [("count", 10)]) rfl nd (pi_list (pv 1)) (blkOk_by (own := [("count", 10)]) (by kernel_rfl)) (fun _ _ _ _ _ => (pg_name (i := 10) nd rfl (.inl rfl))) (fun _ _ _ _ _ => pts_nil) (fun _ _ _ _ _ => (pe_op op_sub (pe_op op_add (pv 10) (pv 2)) (pe_op op_mulW pe_int (pe_callB call_len_seq rfl (T.free "len" (T.fa 6 rfl)) boot_len (pa_cons (pv 0) pa_nil)))))) pa_nil)))))) pss_nil)
    (pss_cons (ps_setLc (i := 5) (own := [("h", 9)]) rfl nd rfl rfl (sw_true rfl rfl rfl (by kernel_rfl)) (pi_list (pv 0)) (blkOk_by (own := [("h", 9)]) (by kernel_rfl)) (fun _ _ _ _ _ => (pg_name (i := 9) nd rfl (.inl rfl))) (fun _ _ _ _ _ => pts_nil) (fun _ _ _ _ _ => (pe_op op_sub pe_int (pv 9))))
    (pss_cons (ps_if (pt_cmpR op_eq (pv 3) pe_int (nomark _)) (pss_one (ps_setLc (i := 5) (own := [("h", 9)]) rfl nd rfl rfl (sw_true rfl rfl rfl (by kernel_rfl)) (pi_list (pv 0)) (blkOk_by (own := [("h", 9)]) (by kernel_rfl)) (fun _ _ _ _ _ => (pg_name (i := 9) nd rfl (.inl rfl))) (fun _ _ _ _ _ => pts_nil) (fun _ _ _ _ _ => (pe_op op_add (pv 9) (pe_c1 ⟨ok_l_shift T, hr.mono (by decide), takes0⟩ (T.glo "_law_shift" (T.fa 49 rfl)) (He.keep_ok (x := "_law_shift") (T.fa 50 rfl)) rfl (pa_cons (pv 4) pa_nil)))))) pss_nil)
    (pss_cons (ps_if (pt_cmpR op_eq (pv 3) pe_int (nomark _)) (pss_one (ps_setLc (i := 5) (own := [("h", 9)]) rfl nd rfl rfl (sw_true rfl rfl rfl (by kernel_rfl)) (pi_list (pv 0)) (blkOk_by (own := [("h", 9)]) (by kernel_rfl)) (fun _ _ _ _ _ => (pg_name (i := 9) nd rfl (.inl rfl))) (fun _ _ _ _ _ => pts_nil) (fun _ _ _ _ _ => (pe_op op_sub (pv 9) (pe_c1 ⟨ok_l_shift T, hr.mono (by decide), takes0⟩ (T.glo "_law_shift" (T.fa 49 rfl)) (He.keep_ok (x := "_law_shift") (T.fa 50 rfl)) rfl (pa_cons (pv 4) pa_nil)))))) pss_nil)
    (pss_cons (ps_set (i := 6) nd rfl (.inl rfl) (pe_callTy call_list_of rfl (T.free "list" (T.fa 15 rfl)) (by kernel_rfl) (pa_cons (pv 1) pa_nil)))
    (pss_cons (ps_if (pt_cmpR op_eq (pv 3) pe_int (nomark _)) (pss_cons (ps_setLc (i := 5) (own := [("h", 9)]) rfl nd rfl rfl (sw_true rfl rfl rfl (by kernel_rfl)) (pi_list (pv 0)) (blkOk_by (own := [("h", 9)]) (by kernel_rfl)) (fun _ _ _ _ _ => (pg_name (i := 9) nd rfl (.inl rfl))) (fun _ _ _ _ _ => pts_nil) (fun _ _ _ _ _ => (pe_op op_mulW (pv 9) (pe_c1 ⟨ok_l_factor T, hr.mono (by decide), takes0⟩ (T.glo "_law_factor" (T.fa 55 rfl)) (He.keep_ok (x := "_law_factor") (T.fa 56 rfl)) rfl (pa_cons (pv 2) (pa_cons (pv 4) pa_nil))))))
    (pss_one (ps_for (passes_of rfl) rfl (pi_range1 rfl (T.free "range" (T.fa 7 rfl)) (pa_cons (pv 2) pa_nil)) (pg_name (i := 7) nd rfl (.inl rfl)) (pss_one (ps_asg (pe_ix ix_list (pv 1) (pv 7) (fun _ _ => rfl)) (pg_sub (pv 6) (pe_op op_modN (pe_callTy call_int1 rfl (T.free "int" (T.fa 4 rfl)) (by kernel_rfl) (pa_cons (pe_op op_mulW (pv 7) (pe_c1 ⟨ok_l_factor T, hr.mono (by decide), tk⟩ (T.glo "_law_factor" (T.fa 55 rfl)) (He.keep_ok (x := "_law_factor") (T.fa 56 rfl)) rfl (pa_cons (pv 2) (pa_cons (pv 4) pa_nil)))) pa_nil)) (pv 2)) set_list)))))) pss_nil)
    (pss_cons (ps_set (i := 8) nd rfl (.inr rfl) (pe_lc (own := [("h", 9)]) rfl nd (pi_list (pv 5)) (blkOk_by (own := [("h", 9)]) (by kernel_rfl)) (fun _ _ _ _ _ => (pg_name (i := 9) nd rfl (.inl rfl))) (fun _ _ _ _ _ => pts_nil) (fun _ _ _ _ _ => (pe_op op_modN (pe_callTy call_int1 rfl (T.free "int" (T.fa 4 rfl)) (by kernel_rfl) (pa_cons (pv 9) pa_nil)) (pv 2)))))
    (pss_one (ps_ret (pe_tup (pa_cons (pv 2) (pa_cons (pe_lc (own := [("h", 9)]) rfl nd (pi_range1 rfl (T.free "range" (T.fa 7 rfl)) (pa_cons (pv 2) pa_nil)) (blkOk_by (own := [("h", 9)]) (by kernel_rfl)) (fun _ _ _ _ _ => (pg_name (i := 9) nd rfl (.inl rfl))) (fun _ _ _ _ _ => pts_one (pt_cmpR op_in_seq (pv 9) (pv 8) rfl)) (fun _ _ _ _ _ => (pv 9))) (pa_cons (pv 6) pa_nil))))))))))))))))
    (pure_l_due (T_kf T))
theorem law_at (T : TT w K mg base) {fd : FuncData} (F : FnX K d_law fd) : FnOk Pg w K mg base (L2.CX Pg w) 14 (He.ga K "law") fd ["script"] (sp_law K) :=
  okf_at (d := d_law) (t := fun E => t_law K E) F sc_law (fun _ _ _ _ h => by obtain ⟨_, _, rfl, _⟩ := h; rfl)
    (fun cdv A outer s H E nd tk hr =>
    (pss_cons (ps_set (i := 1) nd rfl (.inl rfl) (pe_c1 ⟨ok_l_draws T, hr.mono (by decide), tk⟩ (T.glo "_law_draws" (T.fa 35 rfl)) (He.keep_ok (x := "_law_draws") (T.fa 36 rfl)) rfl (pa_cons (pe_c1 ⟨ok_l_cell T, hr.mono (by decide), tk⟩ (T.glo "_law_cell" (T.fa 39 rfl)) (He.keep_ok (x := "_law_cell") (T.fa 40 rfl)) rfl (pa_cons (pv 0) (pa_cons pe_int pa_nil))) (pa_cons pe_int (pa_cons (pe_lst (pa_cons pe_int (pa_cons pe_int (pa_cons pe_int (pa_cons pe_int (pa_cons pe_int (pa_cons pe_int pa_nil))))))) pa_nil)))))
    (pss_cons (ps_set (i := 2) nd rfl (.inr rfl) (pe_op op_add pe_int (pe_ix ix_list (pv 1) pe_int (fun _ _ => rfl))))
    (pss_cons (ps_if (pt_cmpR op_eq (pe_ix ix_list (pv 1) pe_int (fun _ _ => rfl)) pe_int (nomark _)) (pss_one (ps_set (i := 2) nd rfl (.inr rfl) (pe_op op_add pe_int (pe_ix ix_list (pv 1) pe_int (fun _ _ => rfl))))) pss_nil)
    (pss_cons (ps_asg (pe_c1 ⟨ok_l_lots T, hr.mono (by decide), tk⟩ (T.glo "_law_lots" (T.fa 75 rfl)) (He.keep_ok (x := "_law_lots") (T.fa 76 rfl)) rfl (pa_cons (pv 0) (pa_cons (pv 2) (pa_cons (pe_ix ix_list (pv 1) pe_int (fun _ _ => rfl)) (pa_cons (pe_ix ix_list (pv 1) pe_int (fun _ _ => rfl)) pa_nil))))) (pg_tup rfl (pgs_cons (pg_name (i := 3) nd rfl (.inl rfl)) (pgs_cons (pg_name (i := 4) nd rfl (.inl rfl)) pgs_nil))))
    (pss_cons (ps_set (i := 5) nd rfl (.inl rfl) (pv 2))
    (pss_cons (ps_set (i := 6) nd rfl (.inl rfl) (pe_mk1 (He.mkr_ok (x := "Lot") (T.fa 16 rfl)) ⟨ok_Lot_init T, hr.mono (by decide), tk⟩ (hr.mono (by decide)) (T.glo "Lot" (T.fa 17 rfl)) rfl (pa_cons (pv 2) (pa_cons (pe_callTy call_list_of rfl (T.free "list" (T.fa 15 rfl)) (by kernel_rfl) (pa_cons (pv 3) pa_nil)) pa_nil))))
    (pss_cons (ps_set (i := 7) nd rfl (.inl rfl) (pe_mk1 (He.mkr_ok (x := "Lot") (T.fa 16 rfl)) ⟨ok_Lot_init T, hr.mono (by decide), tk⟩ (hr.mono (by decide)) (T.glo "Lot" (T.fa 17 rfl)) rfl (pa_cons (pv 2) (pa_cons (pe_callTy call_list_of rfl (T.free "list" (T.fa 15 rfl)) (by kernel_rfl) (pa_cons (pv 4) pa_nil)) pa_nil))))
    (pss_cons (ps_set (i := 8) nd rfl (.inl rfl) (pe_c1 ⟨ok_l_counts T, hr.mono (by decide), tk⟩ (T.glo "_law_counts" (T.fa 77 rfl)) (He.keep_ok (x := "_law_counts") (T.fa 78 rfl)) rfl (pa_cons (pv 3) (pa_cons (pv 2) pa_nil))))
    (pss_cons (ps_set (i := 9) nd rfl (.inl rfl) (pe_c1 ⟨ok_l_counts T, hr.mono (by decide), tk⟩ (T.glo "_law_counts" (T.fa 77 rfl)) (He.keep_ok (x := "_law_counts") (T.fa 78 rfl)) rfl (pa_cons (pv 4) (pa_cons (pv 2) pa_nil))))
    (pss_cons (ps_if (PW.pt (pw_or (pt_not (pt_val (pe_c1 ⟨ok_l_same_1 T, hr.mono (by decide), tk⟩ (T.glo "_law_same" (T.fa 33 rfl)) (He.keep_ok (x := "_law_same") (T.fa 34 rfl)) rfl (pa_cons (pe_c1 ⟨ok_differences T, hr.mono (by decide), tk⟩ (T.glo "differences" (T.fa 79 rfl)) (He.keep_ok (x := "differences") (T.fa 80 rfl)) rfl (pa_cons (pv 6) pa_nil)) (pa_cons (pv 8) pa_nil))))) (pw_or1 (pt_not (pt_val (pe_c1 ⟨ok_l_same_1 T, hr.mono (by decide), tk⟩ (T.glo "_law_same" (T.fa 33 rfl)) (He.keep_ok (x := "_law_same") (T.fa 34 rfl)) rfl (pa_cons (pe_c1 ⟨ok_differences T, hr.mono (by decide), tk⟩ (T.glo "differences" (T.fa 79 rfl)) (He.keep_ok (x := "differences") (T.fa 80 rfl)) rfl (pa_cons (pv 7) pa_nil)) (pa_cons (pv 9) pa_nil)))))))) (pss_one (ps_ret pe_bl)) pss_nil)
    (pss_cons (ps_set (i := 10) nd rfl (.inl rfl) (pe_lst pa_nil))
    (pss_cons (ps_for (passes_of rfl) rfl (pi_list (pv 3)) (pg_name (i := 11) nd rfl (.inr rfl)) (pss_one (ps_expr (pe_bm PySem.F.plainAttrs_list PySem.F.slot_list_extend PySem.F.type_list_extend mt_extend (pv 10) (pa_cons (pe_lc (own := [("other", 21)]) rfl nd (pi_list (pv 4)) (blkOk_by (own := [("other", 21)]) (by kernel_rfl)) (fun _ _ _ _ _ => (pg_name (i := 21) nd rfl (.inl rfl))) (fun _ _ _ _ _ => pts_nil) (fun _ _ _ _ _ => (pe_op op_modN (pe_callTy call_int1 rfl (T.free "int" (T.fa 4 rfl)) (by kernel_rfl) (pa_cons (pe_op op_add (pv 11) (pv 21)) pa_nil)) (pv 2)))) pa_nil)))))
    (pss_cons (ps_set (i := 12) nd rfl (.inr rfl) (pe_c1 ⟨ok_l_met T, hr.mono (by decide), tk⟩ (T.glo "_law_met" (T.fa 69 rfl)) (He.keep_ok (x := "_law_met") (T.fa 70 rfl)) rfl (pa_cons (pv 10) (pa_cons (pv 2) pa_nil))))
    (pss_cons (ps_setLc (i := 13) (own := [("h", 11)]) rfl nd rfl rfl (sw_true rfl rfl rfl (by kernel_rfl)) (pi_range1 rfl (T.free "range" (T.fa 7 rfl)) (pa_cons (pv 2) pa_nil)) (blkOk_by (own := [("h", 11)]) (by kernel_rfl)) (fun _ _ _ _ _ => (pg_name (i := 11) nd rfl (.inl rfl))) (fun _ _ _ _ _ => pts_one (pt_cmpR op_gt (pe_ix ix_list (pv 12) (pv 11) (fun _ _ => rfl)) pe_int (nomark _))) (fun _ _ _ _ _ => (pv 11)))
    (pss_cons (ps_set (i := 14) nd rfl (.inl rfl) (pe_c1 ⟨ok_l_sum T, hr.mono (by decide), tk⟩ (T.glo "_law_sum" (T.fa 81 rfl)) (He.keep_ok (x := "_law_sum") (T.fa 82 rfl)) rfl (pa_cons (pv 6) (pa_cons (pv 7) pa_nil))))
    (pss_cons (ps_set (i := 15) nd rfl (.inl rfl) (pv 6))
    (pss_cons (ps_set (i := 16) nd rfl (.inl rfl) (pv 3))
    (pss_cons (ps_if (pt_cmpR op_gt (pe_callB call_len_seq rfl (T.free "len" (T.fa 6 rfl)) boot_len (pa_cons (pv 13) pa_nil)) pe_int (nomark _)) (pss_one (ps_if (pt_not (pt_val (pe_c1 ⟨ok_l_same_1 T, hr.mono (by decide), tk⟩ (T.glo "_law_same" (T.fa 33 rfl)) (He.keep_ok (x := "_law_same") (T.fa 34 rfl)) rfl (pa_cons (pv 14) (pa_cons (pe_tup (pa_cons pe_str (pa_cons (pe_ix ix_list (pv 13) pe_int (fun _ _ => rfl)) pa_nil))) pa_nil))))) (pss_one (ps_ret pe_bl)) pss_nil)) (pss_cons (ps_setLc (i := 16) (own := [("h", 11)]) rfl nd rfl rfl (sw_true rfl rfl rfl (by kernel_rfl)) (pi_range1 rfl (T.free "range" (T.fa 7 rfl)) (pa_cons (pv 2) pa_nil)) (blkOk_by (own := [("h", 11)]) (by kernel_rfl)) (fun _ _ _ _ _ => (pg_name (i := 11) nd rfl (.inl rfl))) (fun _ _ _ _ _ => pts_one (pt_cmpR op_eq (pe_ix ix_list (pv 12) (pv 11) (fun _ _ => rfl)) pe_int (nomark _))) (fun _ _ _ _ _ => (pv 11)))
    (pss_cons (ps_set (i := 8) nd rfl (.inl rfl) (pe_c1 ⟨ok_l_fold T, hr.mono (by decide), tk⟩ (T.glo "_law_fold" (T.fa 83 rfl)) (He.keep_ok (x := "_law_fold") (T.fa 84 rfl)) rfl (pa_cons (pv 8) (pa_cons (pv 9) (pa_cons (pv 2) pa_nil)))))
    (pss_cons (ps_if (PW.pt (pw_or (pt_not (pt_val (pe_c1 ⟨ok_l_is_lot T, hr.mono (by decide), tk⟩ (T.glo "_law_is_lot" (T.fa 85 rfl)) (He.keep_ok (x := "_law_is_lot") (T.fa 86 rfl)) rfl (pa_cons (pv 14) (pa_cons (pv 2) (pa_cons (pv 16) pa_nil)))))) (pw_or1 (pt_not (pt_val (pe_c1 ⟨ok_l_same_1 T, hr.mono (by decide), tk⟩ (T.glo "_law_same" (T.fa 33 rfl)) (He.keep_ok (x := "_law_same") (T.fa 34 rfl)) rfl (pa_cons (pe_c1 ⟨ok_differences T, hr.mono (by decide), tk⟩ (T.glo "differences" (T.fa 79 rfl)) (He.keep_ok (x := "differences") (T.fa 80 rfl)) rfl (pa_cons (pv 14) pa_nil)) (pa_cons (pv 8) pa_nil)))))))) (pss_one (ps_ret pe_bl)) pss_nil)
    (pss_one (ps_set (i := 15) nd rfl (.inl rfl) (pv 14)))))))
    (pss_cons (ps_set (i := 17) nd rfl (.inl rfl) (pe_c1 ⟨ok_l_draws T, hr.mono (by decide), tk⟩ (T.glo "_law_draws" (T.fa 35 rfl)) (He.keep_ok (x := "_law_draws") (T.fa 36 rfl)) rfl (pa_cons (pe_c1 ⟨ok_l_cell T, hr.mono (by decide), tk⟩ (T.glo "_law_cell" (T.fa 39 rfl)) (He.keep_ok (x := "_law_cell") (T.fa 40 rfl)) rfl (pa_cons (pv 0) (pa_cons pe_int pa_nil))) (pa_cons pe_int (pa_cons (pe_op op_rep (pe_lst (pa_cons pe_int (pa_cons pe_int pa_nil))) pe_int) pa_nil)))))
    (pss_cons (ps_for (passes_of rfl) rfl (pi_range1 rfl (T.free "range" (T.fa 7 rfl)) (pa_cons (pe_ix ix_list (pv 1) pe_int (fun _ _ => rfl)) pa_nil)) (pg_name (i := 18) nd rfl (.inl rfl)) (pss_cons (ps_set (i := 19) nd rfl (.inl rfl) (pe_c1 ⟨ok_l_kind T, hr.mono (by decide), tk⟩ (T.glo "_law_kind" (T.fa 87 rfl)) (He.keep_ok (x := "_law_kind") (T.fa 88 rfl)) rfl (pa_cons (pv 2) (pa_cons (pe_ix ix_list (pv 17) (pe_op op_mulW pe_int (pv 18)) (fun _ _ => rfl)) (pa_cons (pe_ix ix_list (pv 17) (pe_op op_add (pe_op op_mulW pe_int (pv 18)) pe_int) (fun _ _ => rfl)) pa_nil)))))
    (pss_cons (ps_set (i := 14) nd rfl (.inl rfl) (pe_c1 ⟨ok_l_told T, hr.mono (by decide), tk⟩ (T.glo "_law_told" (T.fa 89 rfl)) (He.keep_ok (x := "_law_told") (T.fa 90 rfl)) rfl (pa_cons (pv 15) (pa_cons (pv 2) (pa_cons (pv 19) (pa_cons (pe_ix ix_list (pv 17) (pe_op op_add (pe_op op_mulW pe_int (pv 18)) pe_int) (fun _ _ => rfl)) pa_nil))))))
    (pss_cons (ps_set (i := 20) nd rfl (.inl rfl) (pe_c1 ⟨ok_l_due T, hr.mono (by decide), tk⟩ (T.glo "_law_due" (T.fa 91 rfl)) (He.keep_ok (x := "_law_due") (T.fa 92 rfl)) rfl (pa_cons (pv 16) (pa_cons (pv 8) (pa_cons (pv 2) (pa_cons (pv 19) (pa_cons (pe_ix ix_list (pv 17) (pe_op op_add (pe_op op_mulW pe_int (pv 18)) pe_int) (fun _ _ => rfl)) pa_nil)))))))
    (pss_one (ps_if (pt_cmpR op_eq (pe_callB call_len_seq rfl (T.free "len" (T.fa 6 rfl)) boot_len (pa_cons (pv 20) pa_nil)) pe_int (nomark _)) (pss_one (ps_if (PW.pt (pw_or (pt_not (pt_val (pe_c1 ⟨ok_l_same_1 T, hr.mono (by decide), tk⟩ (T.glo "_law_same" (T.fa 33 rfl)) (He.keep_ok (x := "_law_same") (T.fa 34 rfl)) rfl (pa_cons (pv 14) (pa_cons (pv 20) pa_nil))))) (pw_or1 (pt_not (pt_val (pe_c1 ⟨ok_l_is_lot T, hr.mono (by decide), tk⟩ (T.glo "_law_is_lot" (T.fa 85 rfl)) (He.keep_ok (x := "_law_is_lot") (T.fa 86 rfl)) rfl (pa_cons (pv 15) (pa_cons (pv 2) (pa_cons (pv 16) pa_nil))))))))) (pss_one (ps_ret pe_bl)) pss_nil)) (pss_cons (ps_asg (pv 20) (pg_tup rfl (pgs_cons (pg_name (i := 2) nd rfl (.inr rfl)) (pgs_cons (pg_name (i := 16) nd rfl (.inl rfl)) (pgs_cons (pg_name (i := 8) nd rfl (.inl rfl)) pgs_nil)))))
    (pss_cons (ps_if (PW.pt (pw_or (pt_not (pt_val (pe_c1 ⟨ok_l_is_lot T, hr.mono (by decide), tk⟩ (T.glo "_law_is_lot" (T.fa 85 rfl)) (He.keep_ok (x := "_law_is_lot") (T.fa 86 rfl)) rfl (pa_cons (pv 14) (pa_cons (pv 2) (pa_cons (pv 16) pa_nil)))))) (pw_or1 (pt_not (pt_val (pe_c1 ⟨ok_l_same_1 T, hr.mono (by decide), tk⟩ (T.glo "_law_same" (T.fa 33 rfl)) (He.keep_ok (x := "_law_same") (T.fa 34 rfl)) rfl (pa_cons (pe_c1 ⟨ok_differences T, hr.mono (by decide), tk⟩ (T.glo "differences" (T.fa 79 rfl)) (He.keep_ok (x := "differences") (T.fa 80 rfl)) rfl (pa_cons (pv 14) pa_nil)) (pa_cons (pv 8) pa_nil)))))))) (pss_one (ps_ret pe_bl)) pss_nil)
    (pss_one (ps_set (i := 15) nd rfl (.inl rfl) (pv 14)))))))))))
    (pss_one (ps_ret (pe_and (pe_c1 ⟨ok_l_is_lot T, hr.mono (by decide), tk⟩ (T.glo "_law_is_lot" (T.fa 85 rfl)) (He.keep_ok (x := "_law_is_lot") (T.fa 86 rfl)) rfl (pa_cons (pv 6) (pa_cons (pv 5) (pa_cons (pv 3) pa_nil)))) (pe_one (pe_c1 ⟨ok_l_is_lot T, hr.mono (by decide), tk⟩ (T.glo "_law_is_lot" (T.fa 85 rfl)) (He.keep_ok (x := "_law_is_lot") (T.fa 86 rfl)) rfl (pa_cons (pv 7) (pa_cons (pv 5) (pa_cons (pv 4) pa_nil)))))))))))))))))))))))))))))
    (pure_law (T_kf T))
end
end K05

set_option maxHeartbeats 0
namespace K05
open PySem PySem.Spec PyProof.Rows L2 Bw
abbrev R : PySem.W.OpenRow := PySem.W.OpenLaw.row PySem.Challenge.rw_beatswatched_k05_whole_differences
abbrev fx (K : PySem.W.Frag) : Bool := fl.all fun f => f K
abbrev hk : PySem.W.Hook := hookX 6 fx fn
def ob (s : PySem.W.SharedT) : AlX := obsXG 6 fx fn (HandSHeadRun.getT s)
theorem ob_eq (s : PySem.W.SharedT) : ob s = hk.obs s.abs := obsXG_eq (HandSHeadRun.getT_eq s)
def names : List PySem.Str := (["_wall", "WatchError", "BadNumber", "RepeatedHour", "Meets", "OtherHours", "NotADivisor", "hours_checked", "rings_checked", "meetings", "differences", "first_repeated"] : List PySem.Str) ++ ((["each_once", "Lot", "_law_cell", "_law_draws", "_law_is_int", "_law_same", "_law_bits", "_law_subset", "_law_gcd", "_law_parts", "_law_lots", "_law_counts"] : List PySem.Str) ++ ((["_law_met", "_law_fold", "_law_is_lot", "_law_factor", "_law_shift", "_law_part", "_law_kind", "_law_done", "_law_sum", "_law_told", "_law_copied_due", "_law_residues_due"] : List PySem.Str) ++ ((["_law_due"] : List PySem.Str))))
theorem run (w : World) : HandSHeadRun.RunEq R (PySem.W.view R.prog [42]) hk ob 4000 names w := by
  intro os
  kernel_rfl
theorem facts {w : World} {K : PySem.W.Frag} {h : Heap} {mg : PySem.Str → Option Value} {f : Addr} (X : K.In h) (G : h.Ns mainGlobals mg) (hfa : mg ("law" : PySem.Str) = some (.ref f)) (c : SaysX fx fn K) :
    ∃ fd : FuncData, (∀ (s : Shared) (v : Value), BindsTo s fd ⟨[v], []⟩ [("script", v)]) ∧ ∀ base : Heap, K.In base → base.Ns mainGlobals mg → FnOk Pg w K mg base CX0 14 f fd ["script"] (sp_law K) := by
  have Th : TT w K mg h := ⟨X, G, c⟩
  obtain ⟨fd, F⟩ := c.def_ 39 (d := d_law) rfl
  have e := hfa.symm.trans (Th.glo "law" (Th.fa 110 rfl))
  cases e
  have b := F.binds (ps := ["script"]) fun _ _ _ _ _ _ us hl => match us, hl with | [_], _ => rfl
  have hkin : ∀ s : Shared, ∀ v : Value, BindsTo s fd ⟨[v], []⟩ [("script", v)] := by
    obtain ⟨oc, od, kV, doc, pm, an, cdv, ct, osl, rfl, lk, hcd⟩ := F.ex
    exact fun s v => .of_eq rfl
  exact ⟨fd, hkin, fun base B1 B2 => fn0 (law_at (base := base) ⟨B1, B2, c⟩ F) fun vs H Q E h => h⟩
end K05
open PySem PySem.W PySem.Calls PyProof.Rows
theorem PySem.Challenge.cw_beatswatched_k05_whole_differences_holds : PySem.Challenge.rw_beatswatched_k05_whole_differences.Holds := by
  w_on; o_law
  refine HandSHeadRun.head_any (r := OpenLaw.row PySem.Challenge.rw_beatswatched_k05_whole_differences) (q := view (OpenLaw.row PySem.Challenge.rw_beatswatched_k05_whole_differences).prog [42]) (H := K05.hk) (ob := K05.ob) (M := 4000) (loose := K05.names) (d := HandSHeadRun.topDef (OpenLaw.row PySem.Challenge.rw_beatswatched_k05_whole_differences).prog 42) (kwd := []) K05.ob_eq
    (by kernel_rfl) (fun s => by kernel_rfl) K05.run (by kernel_rfl) (by kernel_rfl) (by kernel_rfl) (by rfl) (by first | assumption | decide +kernel) (by decide +kernel) ⟨rfl, rfl, rfl, rfl, rfl, by decide +kernel⟩ ?hw ?hc
  case hw => w_witness2
  case hc =>
    refine L2.walk_ofE (l := PySem.Challenge.rw_beatswatched_k05_whole_differences) (n := 63) (k := 14) (x := "script") (CX := L2.CX0) rfl (by decide) (by kernel_rfl) ⟨rfl, by decide, by decide⟩ ?F (fun _ _ _ _ z => z)
    intro w mg fa h Y G hmg0
    obtain ⟨K, KX, c⟩ := Y
    have hmg : mg ("law" : PySem.Str) = some (.ref fa) := by
      have e : (HandSHeadRun.topDef (OpenLaw.row PySem.Challenge.rw_beatswatched_k05_whole_differences).prog 42).name = ("law" : PySem.Str) := by kernel_rfl
      rw [← e]
      exact hmg0
    obtain ⟨fd, hb, hF⟩ := K05.facts (w := w) KX G hmg c
    exact ⟨K, fd, Bw.sp_law K, KX, hb, fun H a ns hl _ hS => ⟨a, ns, rfl, hS, fun _ => rfl⟩, hF⟩
