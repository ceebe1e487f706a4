import PyProof.Rows.All
import Wide.All
import OpenK.AllK
import Wide.FinOn
import HandS.ForMost
import HandS.Exc
import HandS.TryOnly
import HandS.ExcOwn
import HandS.WordsExc
import HandS.Defaults
import HandS.TupAny
import HandS.Deep
import HandS.Flow
import HandS.Walk
import HandS.Conv
import HandS.Wide
import HandS.IsInst
import HandS.StrMore
import HandS.TupMul
import HandS.Zip
import HandS.More
import HandS.SetKeys
import HandS.TupLe
import HandS.HeadHook1
import HandS.HeadHook4
import HandS.Lambda
import KE.IntBitsLaws
import HandS.Style
import KE.KRevSl
import HandS.ExcInit
import HandS.ExcIs
import KE.KStateDown
import Lean
import HandS.EndBits
import HandS.EndTab
import HandS.Head0
import HandS.Head1
import HandS.Head2
import HandS.HeadEnd
import HandS.HeadHook2
import HandS.HeadHook3
import HandS.HeadWalk
import PySem.Challenge.RW_keytape_k14_whole_by_other_signs
set_option Elab.async false
set_option linter.all false
set_option maxRecDepth 100000
set_option maxHeartbeats 0
/-! KR: own rules and words over the hand layer, of no program. -/
namespace KR
open PySem PySem.Spec PyProof.Rows L2

/-! ### constants of the module -/
section
variable {X : Cx} {x : Str} {pos : Pos}
theorem pe_gint {i : Int} (hg : Gl X x) (h : ∃ t, X.mg x = some (.int i t)) (hd : (x == ("__debug__" : Str)) = false := by decide) : PE X (.Name x pos) (tC (.int i)) := by
  obtain ⟨t, h⟩ := h
  exact pe_glob hg h ⟨t, rfl⟩ hd
theorem pe_gstr {z : Str} (hg : Gl X x) (h : ∃ t, X.mg x = some (.str z t)) (hd : (x == ("__debug__" : Str)) = false := by decide) : PE X (.Name x pos) (tC (.str z)) := by
  obtain ⟨t, h⟩ := h
  exact pe_glob hg h ⟨t, rfl⟩ hd
theorem pe_gref {a : Addr} (hg : Gl X x) (h : X.mg x = some (.ref a)) (hd : (x == ("__debug__" : Str)) = false := by decide) : PE X (.Name x pos) (tC (.ref a)) := pe_glob hg h rfl hd
theorem pe_gty {n : String} (hg : Gl X x) (hm : X.mg x = none) (hv : bootBuiltins x = some (.type n)) (hn : x ≠ "__name__" := by decide) (hd : (x == ("__debug__" : Str)) = false := by decide) : PE X (.Name x pos) (tC (.ty n)) :=
  pe_bltn hg hm hv rfl hn hd
/-- * of any two ints that are not both great -/
theorem op_mulB : OpR X (binaryOp .Mult) (rI IntMulOk fun i j => .int (i * j)) := opI fun _ _ _ _ _ _ _ hc q => mul_int q hc
end

/-! ### what may leave a def -/
theorem px {P : Program} {w : World} {K : PySem.W.Frag} {mg : Str → Option Value} {base : Heap} {N : List Str} {qual : Str} {scope : Scope} {f : Addr} {cd : Value} {A : Around} {outer : List Env} {s : Shared} {H : Hp} {E : XK} :
    Passes (L2.CX P w) (cxOf (L2.CX P w) P w K mg base N qual scope f cd A outer s H E) E := passes_call (takes_of rfl rfl rfl rfl) fun _ _ _ _ h => h
theorem po {P : Program} {w : World} {K : PySem.W.Frag} {mg : Str → Option Value} {base : Heap} {N : List Str} {qual : Str} {scope : Scope} {f : Addr} {cd : Value} {A : Around} {outer : List Env} {s : Shared} {H : Hp} {E : XK} :
    PassesOwn (model P w) (cxOf (L2.CX P w) P w K mg base N qual scope f cd A outer s H E).A (cxOf (L2.CX P w) P w K mg base N qual scope f cd A outer s H E).env (cxOf (L2.CX P w) P w K mg base N qual scope f cd A outer s H E).xe := passes_of rfl

/-! ### callables, told by their names: a global def; a method of a class; a class by its __init__ -/
section
variable (P : Program) (w : World) (K : PySem.W.Frag) (mg : Str → Option Value) (base : Heap)
structure Cal (k : Nat) (x : Str) (sp : Sp) : Prop where
  ex : ∃ (f : Addr) (fd : FuncData) (ps : List Str), FnOk P w K mg base (L2.CX P w) k f fd ps sp ∧ mg x = some (.ref f) ∧ PySem.W.keepIn K (.ref f) = true ∧ Binds K fd ps []
structure Met (k : Nat) (C : Addr) (m : Str) (sp : Sp) : Prop where
  ex : ∃ (f : Addr) (fd : FuncData) (ps : List Str), Cls K C ∧ Meth K C m f ∧ FnOk P w K mg base (L2.CX P w) k f fd ps sp ∧ Binds K fd ps []
structure Mak (k : Nat) (x : Str) (C : Addr) (sp : Sp) : Prop where
  ex : ∃ (f : Addr) (fd : FuncData) (ps : List Str), Mk K C f ∧ FnOk P w K mg base (L2.CX P w) k f fd ps sp ∧ mg x = some (.ref C) ∧ Binds K fd ps []
end
section
variable {P : Program} {w : World} {K : PySem.W.Frag} {mg : Str → Option Value} {base : Heap} {j k : Nat} {x m : Str} {C : Addr} {sp sp' : Sp}
theorem Cal.mono (c : Cal P w K mg base j x sp) (h : j ≤ k) : Cal P w K mg base k x sp := by
  obtain ⟨f, fd, ps, F, r⟩ := c.ex
  exact ⟨f, fd, ps, F.mono h, r⟩
theorem Cal.imp (c : Cal P w K mg base k x sp) (h : ∀ vs H Q E, sp' vs H Q E → sp vs H Q E) : Cal P w K mg base k x sp' := by
  obtain ⟨f, fd, ps, F, r⟩ := c.ex
  exact ⟨f, fd, ps, F.imp h, r⟩
theorem Met.mono (c : Met P w K mg base j C m sp) (h : j ≤ k) : Met P w K mg base k C m sp := by
  obtain ⟨f, fd, ps, h1, h2, F, r⟩ := c.ex
  exact ⟨f, fd, ps, h1, h2, F.mono h, r⟩
theorem Met.imp (c : Met P w K mg base k C m sp) (h : ∀ vs H Q E, sp' vs H Q E → sp vs H Q E) : Met P w K mg base k C m sp' := by
  obtain ⟨f, fd, ps, h1, h2, F, r⟩ := c.ex
  exact ⟨f, fd, ps, h1, h2, F.imp h, r⟩
end
/-! ### readings of calls: the promise's own words at the arguments -/
section
variable {X : Cx} {j k : Nat} {C : Addr} {x m : Str} {sp : Sp} {p pos apos : Pos} {e o : Expr} {es : List Expr} {ta : TE} {t : TA} {E : XK}
def tCal (sp : Sp) (E : XK) (t : TA) : TE := fun σ H Q => t σ H fun vs H1 => sp vs H1 Q E
def tMet (C : Addr) (m : Str) (sp : Sp) (E : XK) (ta : TE) (t : TA) : TE := fun σ H Q => ta σ H fun x H1 => ∃ a dx fs, x = .ref a ∧ H1 a = some (.ins C dx fs) ∧ fs.lookup m = none ∧ t σ H1 fun vs H2 => sp (x :: vs) H2 Q E
def tMak (C : Addr) (sp : Sp) (E : XK) (t : TA) : TE := fun σ H Q => t σ H fun vs H1 => ∀ x dx, H1 x = none → H1 dx = none → dx ≠ x →
  sp (.ref x :: vs) (upd (upd H1 dx (.own x)) x (.ins C dx [])) (fun v H2 => v = .non ∧ Q (.ref x) H2) E
theorem imp_te {e : Expr} {t t' : TE} (h : PE X e t) (hi : ∀ σ H Q, t' σ H Q → t σ H Q) : PE X e t' := ⟨fun pins s σ H Q I q => h.run pins s σ H Q I (hi σ H Q q)⟩
theorem pa_imp {es : List Expr} {t : TA} (h : PA X es t) {Q Q' : List V → Hp → Prop} (hq : ∀ vs H, Q vs H → Q' vs H) : True := trivial
theorem cal (c : Cal X.prog X.w X.K X.mg X.base k x sp) (hr : Room j X.A) (hk : k ≤ j) (hg : Gl X x) (hx : Passes (L2.CX X.prog X.w) X E) (ha : PA X (e :: es) t)
    (hdb : (x == ("__debug__" : Str)) = false := by decide) (he : starEach (e :: es) X.env = (false, eval e X.env) :: starEach es X.env := by rfl) (hpl : (backTo pos (starEach es X.env)).any (·.1) = false := by rfl) :
    PE X (.Call (.Name x p) (e :: es) [] pos) (tCal sp E t) := by
  obtain ⟨f, fd, ps, F, hm, hk', hb⟩ := c.ex
  have h := pe_call (p := p) F (hr.mono hk) hg hm hk' hb .nil hx ha hdb he hpl
  refine imp_te h fun σ H Q q => ?_
  have e1 : (fun vs H1 => sp (vs ++ []) H1 Q E) = fun vs H1 => sp vs H1 Q E := by
    funext vs H1
    rw [List.append_nil]
  show t σ H fun vs H1 => sp (vs ++ []) H1 Q E
  rw [e1]
  exact q
theorem cal0 (c : Cal X.prog X.w X.K X.mg X.base k x sp) (hr : Room j X.A) (hk : k ≤ j) (hg : Gl X x) (hx : Passes (L2.CX X.prog X.w) X E)
    (hdb : (x == ("__debug__" : Str)) = false := by decide) : PE X (.Call (.Name x p) [] [] pos) (tCal sp E tNil) := by
  obtain ⟨f, fd, ps, F, hm, hk', hb⟩ := c.ex
  exact pe_call0 (p := p) F (hr.mono hk) hg hm hk' hb .nil hx hdb
theorem met {pl : Sem Bool} (c : Met X.prog X.w X.K X.mg X.base k C m sp) (ho : PE X o ta) (hr : Room j X.A) (hk : k ≤ j) (hx : Passes (L2.CX X.prog X.w) X E) (ha : PA X (e :: es) t)
    (hst : starEach (e :: es) X.env = (false, eval e X.env) :: starEach es X.env := by rfl) (hpl : (backTo pos (starEach es X.env)).any (·.1) = false := by rfl)
    (ht : eval (.Call (.Attribute o m apos) (e :: es) [] pos) X.env = (do
      let ov ← eval o X.env
      standAt apos.atName
      let (f, first) ← holding [ov] (getMethod ov m pl)
      callWith pos f first (backTo pos (starEach (e :: es) X.env)) (backToKw pos (keywordEach [] X.env))) := by rfl) :
    PE X (.Call (.Attribute o m apos) (e :: es) [] pos) (tMet C m sp E ta t) := by
  obtain ⟨f, fd, ps, hc, hm, F, b⟩ := c.ex
  have h := pe_meth ho hc hm F (hr.mono hk) b .nil hx ha hst hpl ht
  refine imp_te h fun σ H Q q => ?_
  have e1 : ∀ x : V, (fun vs H2 => sp (x :: (vs ++ [])) H2 Q E) = fun vs H2 => sp (x :: vs) H2 Q E := fun x => by
    funext vs H1
    rw [List.append_nil]
  show ta σ H fun x H1 => ∃ a dx fs, x = .ref a ∧ H1 a = some (.ins C dx fs) ∧ fs.lookup m = none ∧ t σ H1 fun vs H2 => sp (x :: (vs ++ [])) H2 Q E
  simp only [e1]
  exact q
theorem met0 {pl : Sem Bool} (c : Met X.prog X.w X.K X.mg X.base k C m sp) (ho : PE X o ta) (hr : Room j X.A) (hk : k ≤ j) (hx : Passes (L2.CX X.prog X.w) X E)
    (ht : eval (.Call (.Attribute o m apos) [] [] pos) X.env = (do
      let ov ← eval o X.env
      standAt apos.atName
      let (f, first) ← holding [ov] (getMethod ov m pl)
      callWith pos f first (backTo pos (starEach [] X.env)) (backToKw pos (keywordEach [] X.env))) := by rfl) :
    PE X (.Call (.Attribute o m apos) [] [] pos) (tMet C m sp E ta tNil) := by
  obtain ⟨f, fd, ps, hc, hm, F, b⟩ := c.ex
  have h := pe_meth0 ho hc hm F (hr.mono hk) b .nil hx ht
  exact imp_te h fun σ H Q q => q
theorem mak (c : Mak X.prog X.w X.K X.mg X.base k x C sp) (hr : Room j X.A) (hk : k + 1 ≤ j) (hg : Gl X x) (hx : Passes (L2.CX X.prog X.w) X E) (ha : PA X (e :: es) t)
    (hdb : (x == ("__debug__" : Str)) = false := by decide) (he : starEach (e :: es) X.env = (false, eval e X.env) :: starEach es X.env := by rfl) (hpl : (backTo pos (starEach es X.env)).any (·.1) = false := by rfl) :
    PE X (.Call (.Name x p) (e :: es) [] pos) (tMak C sp E t) := by
  obtain ⟨f, fd, ps, M, F, hm, hb⟩ := c.ex
  have h := pe_make (p := p) M F (hr.mono hk) hg hm hb .nil hx ha hdb he hpl
  refine imp_te h fun σ H Q q => ?_
  have e1 : (fun vs H1 => ∀ x dx, H1 x = none → H1 dx = none → dx ≠ x → sp (.ref x :: (vs ++ [])) (upd (upd H1 dx (.own x)) x (.ins C dx [])) (fun v H2 => v = .non ∧ Q (.ref x) H2) E) =
      fun vs H1 => ∀ x dx, H1 x = none → H1 dx = none → dx ≠ x → sp (.ref x :: vs) (upd (upd H1 dx (.own x)) x (.ins C dx [])) (fun v H2 => v = .non ∧ Q (.ref x) H2) E := by
    funext vs H1
    rw [List.append_nil]
  show t σ H fun vs H1 => ∀ x dx, H1 x = none → H1 dx = none → dx ≠ x → sp (.ref x :: (vs ++ [])) (upd (upd H1 dx (.own x)) x (.ins C dx [])) (fun v H2 => v = .non ∧ Q (.ref x) H2) E
  rw [e1]
  exact q
end
section
variable {P : Program} {w : World} {K : PySem.W.Frag} {mg : Str → Option Value} {base : Heap}
/-- a def of the text keeps its promise -/
theorem cal_of {x : Str} {st : Stmt} {f : Addr} {fd : FuncData} {N ps : List Str} {k : Nat} {sp : Sp} (F : FunD K x x (defArgs st) (defBody st) (defScope st) [] [] f fd) (hm : mg x = some (.ref f)) (S : FnScope N ps (defScope st))
    (hb : ∀ (kV doc pm : Value) (an : Option Addr) (cdv ct : Value) (us : List Value), us.length = ps.length → bindArgs (PySem.W.fnOf x x (defArgs st) (defBody st) (defScope st) .none kV doc pm an cdv ct) ⟨us, []⟩ = pure (ps.zip us))
    (len : ∀ vs H Q E, sp vs H Q E → vs.length = ps.length)
    (hbody : ∀ (cdv : Value) (A : Around) (outer : List Env) (s : Shared) (H : Hp) (vs : List V) (Q : VK) (E : XK), Room k (A.deeper (envOfC x (defScope st) s.heap.objs.size f cdv)) → sp vs H Q E →
      ∃ t, PSs (cxOf (L2.CX P w) P w K mg base N x (defScope st) f cdv A outer s H E) (defBody st) t ∧ t { nx := fun _ H' => Q .non H', rt := Q } (L2.start N vs) H) : Cal P w K mg base (k + 1) x sp :=
  ⟨f, fd, ps, F.ok S len hbody, hm, F.kp, F.bindsN hb⟩
theorem met_of {x m qual : Str} {C : Addr} {st : Stmt} {f : Addr} {fd : FuncData} {N ps : List Str} {k : Nat} {sp : Sp} (hc : Cls K C) (me : Meth K C m f) (F : FunD K m qual (defArgs st) (defBody st) (defScope st) [] [] f fd) (S : FnScope N ps (defScope st))
    (hb : ∀ (kV doc pm : Value) (an : Option Addr) (cdv ct : Value) (us : List Value), us.length = ps.length → bindArgs (PySem.W.fnOf m qual (defArgs st) (defBody st) (defScope st) .none kV doc pm an cdv ct) ⟨us, []⟩ = pure (ps.zip us))
    (len : ∀ vs H Q E, sp vs H Q E → vs.length = ps.length)
    (hbody : ∀ (cdv : Value) (A : Around) (outer : List Env) (s : Shared) (H : Hp) (vs : List V) (Q : VK) (E : XK), Room k (A.deeper (envOfC qual (defScope st) s.heap.objs.size f cdv)) → sp vs H Q E →
      ∃ t, PSs (cxOf (L2.CX P w) P w K mg base N qual (defScope st) f cdv A outer s H E) (defBody st) t ∧ t { nx := fun _ H' => Q .non H', rt := Q } (L2.start N vs) H) : Met P w K mg base (k + 1) C m sp :=
  ⟨f, fd, ps, hc, me, F.ok S len hbody, F.bindsN hb⟩
theorem mak_of {x qual : Str} {C : Addr} {st : Stmt} {f : Addr} {fd : FuncData} {N ps : List Str} {k : Nat} {sp : Sp} (M : Mk K C f) (hm : mg x = some (.ref C)) (F : FunD K "__init__" qual (defArgs st) (defBody st) (defScope st) [] [] f fd) (S : FnScope N ps (defScope st))
    (hb : ∀ (kV doc pm : Value) (an : Option Addr) (cdv ct : Value) (us : List Value), us.length = ps.length → bindArgs (PySem.W.fnOf "__init__" qual (defArgs st) (defBody st) (defScope st) .none kV doc pm an cdv ct) ⟨us, []⟩ = pure (ps.zip us))
    (len : ∀ vs H Q E, sp vs H Q E → vs.length = ps.length)
    (hbody : ∀ (cdv : Value) (A : Around) (outer : List Env) (s : Shared) (H : Hp) (vs : List V) (Q : VK) (E : XK), Room k (A.deeper (envOfC qual (defScope st) s.heap.objs.size f cdv)) → sp vs H Q E →
      ∃ t, PSs (cxOf (L2.CX P w) P w K mg base N qual (defScope st) f cdv A outer s H E) (defBody st) t ∧ t { nx := fun _ H' => Q .non H', rt := Q } (L2.start N vs) H) : Mak P w K mg base (k + 1) x C sp :=
  ⟨f, fd, ps, M, F.ok S len hbody, hm, F.bindsN hb⟩
end

/-! ### frames: all but S stands as it was; the tuples stand, and what is locked -/
structure Fr (S : List Addr) (H H' : Hp) : Prop where
  all : ∀ b o, H b = some o → b ∉ S → H' b = some o
  tup : ∀ {b xs}, H b = some (.tup xs) → H' b = some (.tup xs)
  frz : ∀ {b o u}, H b = some (.frz o u) → H' b = some (.frz o u)
  ext : ∀ {b φ}, H b = some (.ext φ) → H' b = some (.ext φ)
section
variable {S S' : List Addr} {H H1 H2 : Hp} {p a : Addr} {o u : HO} {xs : List V} {K : PySem.W.Frag}
theorem Fr.refl (S : List Addr) (H : Hp) : Fr S H H := ⟨fun _ _ h _ => h, fun h => h, fun h => h, fun h => h⟩
theorem Fr.trans (h1 : Fr S H H1) (h2 : Fr S H1 H2) : Fr S H H2 := ⟨fun b o e n => h2.all b o (h1.all b o e n) n, fun e => h2.tup (h1.tup e), fun e => h2.frz (h1.frz e), fun e => h2.ext (h1.ext e)⟩
/-- an object that was not yet there is written -/
theorem Fr.trans' {D : Addr} (h1 : Fr S H H1) (h2 : Fr [D] H1 H2) (n : H D = none) : Fr S H H2 := by
  refine ⟨fun b o e m => h2.all b o (h1.all b o e m) fun z => ?_, fun e => h2.tup (h1.tup e), fun e => h2.frz (h1.frz e), fun e => h2.ext (h1.ext e)⟩
  have hb : b = D := by simpa using z
  rw [hb, n] at e
  cases e
/-- S grows -/
theorem Fr.mono (h : Fr S H H1) (hs : ∀ b ∈ S, b ∈ S') : Fr S' H H1 := ⟨fun b o e n => h.all b o e fun z => n (hs b z), h.tup, h.frz, h.ext⟩
/-- what of S stood not at the start may be left out -/
theorem Fr.drop (h : Fr S H H1) (hs : ∀ b ∈ S, b ∈ S' ∨ H b = none) : Fr S' H H1 := by
  refine ⟨fun b o e n => h.all b o e fun z => ?_, h.tup, h.frz, h.ext⟩
  rcases hs b z with q | q
  · exact n q
  · rw [q] at e
    cases e
theorem Fr.to (h : Fr [] H H1) : Fr S H H1 := h.mono fun b z => by cases z
theorem Fr.same (h : Same H H1) : Fr S H H1 := ⟨fun b o e _ => h b o e, fun e => h _ _ e, fun e => h _ _ e, fun e => h _ _ e⟩
theorem Fr.same' (h : Fr [] H H1) : Same H H1 := fun b o e => h.all b o e (by simp)
theorem Fr.at (h : Fr S H H1) (e : H a = some o) (n : a ∉ S) : H1 a = some o := h.all a o e n
theorem Fr.at0 (h : Fr [] H H1) (e : H a = some o) : H1 a = some o := h.all a o e (by simp)
theorem Fr.sqt (h : Fr S H H1) (e : SqT K H a xs) : SqT K H1 a xs := by
  rcases e with (e | ⟨o, e⟩) | e
  · exact .inl (.inl (h.tup e))
  · exact .inl (.inr ⟨o, h.frz e⟩)
  · exact .inr e
theorem Fr.sql0 (h : Fr [] H H1) (e : SqL K H a xs) : SqL K H1 a xs := by
  rcases e with (e | ⟨o, e⟩) | e
  · exact .inl (.inl (h.at0 e))
  · exact .inl (.inr ⟨o, h.frz e⟩)
  · exact .inr e
/-- a new object -/
theorem Fr.new (h : H p = none) : Fr S H (upd H p o) := .same fun b u e => by
  rw [upd_ne (ne_of_none e h)]
  exact e
/-- an object of S is written -/
theorem Fr.put (hp : p ∈ S) (e : H p = some u) (mu : Mut (some u)) (ne : ∀ φ, u ≠ .ext φ := by intro φ h; cases h) : Fr S H (upd H p o) := by
  refine ⟨fun b v q n => ?_, fun {b ys} q => ?_, fun {b o2 u2} q => ?_, fun {b φ} q => ?_⟩
  · rw [upd_ne (fun z => n (by rw [z]; exact hp))]
    exact q
  · rw [upd_ne (fun z => by
      rw [z, e] at q
      cases q
      exact mu)]
    exact q
  · rw [upd_ne (fun z => by
      rw [z, e] at q
      cases q
      exact mu)]
    exact q
  · rw [upd_ne (fun z => by
      rw [z, e] at q
      exact ne φ (Option.some.inj q))]
    exact q
/-- a place outside S that is free now was free -/
theorem Fr.free (f : Fr S H H1) (h : H1 p = none) (hp : p ∉ S) : H p = none := by
  cases e : H p with
  | none => rfl
  | some v =>
    have q := f.all p v e hp
    rw [h] at q
    cases q
theorem Fr.free0 (f : Fr [] H H1) (h : H1 p = none) : H p = none := f.free h (by simp)
end

/-! ### readings that go on with a heap of its own letter -/
/-- a new list | a new object o | a tuple of these, new or not -/
def NewL (xs : List V) (Q : VK) (H : Hp) : Prop := ∀ p H1, H p = none → Fr [] H H1 → H1 p = some (.lst xs) → Q (.ref p) H1
def NewO (o : HO) (Q : VK) (H : Hp) : Prop := ∀ p H1, H p = none → Fr [] H H1 → H1 p = some o → Q (.ref p) H1
def NewT (K : PySem.W.Frag) (xs : List V) (Q : VK) (H : Hp) : Prop := ∀ p H1, Fr [] H H1 → SqT K H1 p xs → Q (.ref p) H1
/-- the object at a becomes o -/
def PutO (a : Addr) (o : HO) (Q : Hp → Prop) (H : Hp) : Prop := ∀ H1, Fr [a] H H1 → H1 a = some o → Q H1
section
variable {K : PySem.W.Frag} {H : Hp} {Q : VK} {xs : List V} {o u : HO} {a : Addr}
theorem NewL.go (h : NewL xs Q H) : ∀ p, H p = none → Q (.ref p) (upd H p (.lst xs)) := fun p hp => h p _ hp (.new hp) upd_same
theorem NewO.go (h : NewO o Q H) : ∀ p, H p = none → Q (.ref p) (upd H p o) := fun p hp => h p _ hp (.new hp) upd_same
theorem NewT.go (h : NewT K xs Q H) : ∀ p, H p = none → Q (.ref p) (upd H p (.tup xs)) := fun p hp => h p _ (.new hp) (SqT.of upd_same)
theorem NewT.it (h : NewT K xs Q H) {p : Addr} (hp : SqT K H p xs) : Q (.ref p) H := h p _ (.refl _ _) hp
theorem PutO.go {Q : Hp → Prop} (h : PutO a o Q H) (e : H a = some u) (mu : Mut (some u)) (ne : ∀ φ, u ≠ .ext φ := by intro φ h; cases h) : Q (upd H a o) := h _ (.put (by simp) e mu ne) upd_same
end
theorem sz {n : Nat} (h : n ≤ 1000000) : n ≤ sizeLine := Nat.le_trans h (by decide)
theorem sz1 {n : Nat} (h : n < 1000000) : n < sizeLine := Nat.lt_of_lt_of_le h (by decide)

section
variable {X : Cx}
/-! #### operators, calls, methods: another reading that gives the rule's -/
theorem op_imp {f : Value → Value → Sem Value} {r r' : R2} (h : OpR X f r) (hi : ∀ x y H Q, r' x y H Q → r x y H Q) : OpR X f r' := fun pins s σ H x y v u Q I rx ry q => h pins s σ H x y v u Q I rx ry (hi x y H Q q)
theorem call_imp {f : Value} {r r' : List V → Hp → VK → Prop} (h : CallR X f r) (hi : ∀ xs H Q, r' xs H Q → r xs H Q) : CallR X f r' := fun pins s σ H xs us Q I rx q => h pins s σ H xs us Q I rx (hi xs H Q q)
theorem mt_imp {id : String} {r r' : V → List V → Hp → VK → Prop} (h : MtR X id r) (hi : ∀ x xs H Q, r' x xs H Q → r x xs H Q) : MtR X id r' := fun pins s σ H x xs v us Q I rx rv q => h pins s σ H x xs v us Q I rx rv (hi x xs H Q q)
theorem sl_imp {r r' : V → Option Int → Option Int → Hp → VK → Prop} (h : SlR X r) (hi : ∀ x lo hi H Q, r' x lo hi H Q → r x lo hi H Q) : SlR X r' := fun pins s σ H x v vl vu lo hi' sl Q I rx hs pl pu q => h pins s σ H x v vl vu lo hi' sl Q I rx hs pl pu (hi x lo hi' H Q q)
theorem set_imp {r r' : V → V → V → Hp → (Hp → Prop) → Prop} (h : PSet X r) (hi : ∀ o i v H Q, r' o i v H Q → r o i v H Q) : PSet X r' := fun pins s σ H o i v ov iv u Q I ro ri rv q => h pins s σ H o i v ov iv u Q I ro ri rv (hi o i v H Q q)
theorem imp_ps {st : Stmt} {t t' : TS} (h : PS X st t) (hi : ∀ D σ H, t' D σ H → t D σ H) : PS X st t' := ⟨fun pins s σ H D I q => h.run pins s σ H D I (hi D σ H q)⟩

/-! #### displays, sums, slices -/
def uTup (K : PySem.W.Frag) (t : TA) : TE := fun σ H Q => t σ H fun xs H1 => xs.length ≤ 1000000 ∧ NewT K xs Q H1
def uLst (t : TA) : TE := fun σ H Q => t σ H fun xs H1 => xs.length ≤ 1000000 ∧ NewL xs Q H1
variable {es : List Expr} {t : TA} {k : Nat} {pos : Pos}
theorem e_tup (h : PA X es t) : PE X (.Tuple es k pos) (uTup X.K t) := by
  refine ⟨fun pins s σ H Q I q => ?_⟩
  refine wpAny_Tuple_spliced (thn (h.run pos pins s σ H _ I q) fun us s1 ⟨xs, H1, J, r, z, q1⟩ => ?_)
  have z' := sz z
  refine ⟨by rw [← r.length]; exact z', ?_⟩
  have nw := J.hok.fresh (Nat.le_refl s1.heap.objs.size)
  exact ⟨.ref s1.heap.objs.size, _, J.laid (t' := s1.toks) (o := .tup xs) (fun b u e => Heap.get?_push_of_some _ e) (Nat.le_refl _) ⟨z', us, r, ⟨_, Heap.get?_push_size _ rfl, rfl, _, rfl⟩⟩, rfl, q1.go _ nw⟩
theorem e_lst (h : PA X es t) : PE X (.List es pos) (uLst t) := by
  refine ⟨fun pins s σ H Q I q => ?_⟩
  refine wpAny_List_spliced (thn (h.run pos pins s σ H _ I q) fun us s1 ⟨xs, H1, J, r, z, q1⟩ => ?_)
  have z' := sz z
  refine ⟨by rw [← r.length]; exact z', ?_⟩
  have nw := J.hok.fresh (Nat.le_refl s1.heap.objs.size)
  exact ⟨.ref s1.heap.objs.size, _, J.laid (t' := s1.toks) (o := .lst xs) (fun b u e => Heap.get?_push_of_some _ e) (Nat.le_refl _) ⟨z', us, 0, r, Heap.get?_push_size _ rfl⟩, rfl, q1.go _ nw⟩
/-- list + list; tuple + tuple; list * n -/
def uCat : R2 := fun x y H Q => ∃ l b xs zs, x = .ref l ∧ y = .ref b ∧ H l = some (.lst xs) ∧ H b = some (.lst zs) ∧ xs.length + zs.length ≤ 1000000 ∧ NewL (xs ++ zs) Q H
theorem o_cat : OpR X (binaryOp .Add) uCat := op_imp op_cat fun x y H Q ⟨l, b, xs, zs, e1, e2, h1, h2, z, q⟩ => ⟨l, b, xs, zs, e1, e2, h1, h2, sz z, q.go⟩
def uCatT (K : PySem.W.Frag) : R2 := fun x y H Q => ∃ l b xs zs, x = .ref l ∧ y = .ref b ∧ SqT K H l xs ∧ SqT K H b zs ∧ xs.length + zs.length ≤ 1000000 ∧ NewT K (xs ++ zs) Q H
theorem o_catT : OpR X (binaryOp .Add) (uCatT X.K) := op_imp op_catA fun x y H Q ⟨l, b, xs, zs, e1, e2, h1, h2, z, q⟩ => by
  refine ⟨l, b, xs, zs, e1, e2, h1, h2, sz z, fun n => ?_, fun n m => ?_, fun _ _ => q.go⟩
  · subst n
    exact q.it h2
  · subst m
    exact q.it (by rw [List.append_nil]; exact h1)
def uRep : R2 := fun x y H Q => ∃ l k xs, x = .ref l ∧ y = .int k ∧ H l = some (.lst xs) ∧ 0 ≤ k ∧ k ≤ 1000 ∧ xs.length ≤ 1000 ∧ NewL (List.replicate k.toNat xs).flatten Q H
theorem o_rep : OpR X (binaryOp .Mult) uRep := op_imp op_rep fun x y H Q ⟨l, k, xs, e1, e2, h1, k0, k1, z, q⟩ => by
  refine ⟨l, k, xs, e1, e2, h1, by omega, by omega, sz ?_, q.go⟩
  have : xs.length * k.toNat ≤ 1000 * 1000 := Nat.mul_le_mul z (by omega)
  omega
/-- xs[i:j] of a list, of a tuple; s[i:j] -/
def uSlL (K : PySem.W.Frag) : V → Option Int → Option Int → Hp → VK → Prop := fun x lo hi H Q => ∃ a xs, x = .ref a ∧ SqL K H a xs ∧ NewL (cutV xs lo hi) Q H
theorem l_list : SlR X (uSlL X.K) := sl_imp sl_list fun x lo hi H Q ⟨a, xs, e, h, q⟩ => ⟨a, xs, e, h, q.go⟩
def uSlT (K : PySem.W.Frag) : V → Option Int → Option Int → Hp → VK → Prop := fun x lo hi H Q => ∃ a xs, x = .ref a ∧ SqT K H a xs ∧ NewT K (cutV xs lo hi) Q H
theorem cut_whole {xs : List V} {lo hi : Option Int} (h : HT.sIx xs.length 0 lo = 0 ∧ HT.sIx xs.length xs.length hi = xs.length) : cutV xs lo hi = xs := by
  unfold cutV
  rw [h.1, h.2]
  simp
theorem l_tup : SlR X (uSlT X.K) := sl_imp sl_tupA fun x lo hi H Q ⟨a, xs, e, h, q⟩ => ⟨a, xs, e, h, fun z => q.it (by rw [cut_whole z]; exact h), fun _ => q.go⟩
def uSlS : V → Option Int → Option Int → Hp → VK → Prop := fun x lo hi H Q => ∃ z, x = .str z ∧ z.length ≤ 1000000 ∧ Q (.str (cutS z lo hi)) H
theorem l_str : SlR X uSlS := sl_imp sl_str fun x lo hi H Q ⟨z, e, h, q⟩ => ⟨z, e, sz h, q⟩
/-- text + text -/
def uAddS : R2 := fun x y H Q => ∃ i j, x = .str i ∧ y = .str j ∧ i.length + j.length ≤ 1000000 ∧ Q (.str (i ++ j)) H
theorem o_addS : OpR X (binaryOp .Add) uAddS := op_imp op_add_str fun x y H Q ⟨i, j, e1, e2, z, q⟩ => ⟨i, j, e1, e2, sz z, q⟩
/-- // by a positive divisor -/
def uDiv : R2 := rI (fun _ j => 0 < j ∧ j < 1000000000) fun i j => .int (i / j)
theorem o_div : OpR X (binaryOp .FloorDiv) uDiv := op_imp op_fdivW fun x y H Q ⟨i, j, e1, e2, ⟨c1, c2⟩, q⟩ => ⟨i, j, e1, e2, wide_div (b := 30) c1 (by omega) (by decide) (by decide), q⟩

/-- * by a factor that is not great; a power of small ones -/
def uMul : R2 := rI (fun _ j => -4611686018427387904 < j ∧ j < 4611686018427387904) fun i j => .int (i * j)
theorem o_mul : OpR X (binaryOp .Mult) uMul := op_imp op_mulB fun x y H Q ⟨i, j, e1, e2, ⟨c1, c2⟩, q⟩ => ⟨i, j, e1, e2, IntMulOk.of_right (intBits_le_64 (by omega) (by omega)), q⟩
def uPow : R2 := rI (fun i j => 0 ≤ j ∧ j ≤ 1000000 ∧ 0 ≤ i ∧ i < 4611686018427387904) fun i j => .int (i ^ j.toNat)
theorem o_pow : OpR X (binaryOp .Pow) uPow := op_imp op_pow fun x y H Q ⟨i, j, e1, e2, ⟨c1, c2, c3, c4⟩, q⟩ => ⟨i, j, e1, e2, ⟨c1, c2, by omega⟩, q⟩

/-! #### calls of built-ins -/
def uListOf (K : PySem.W.Frag) : List V → Hp → VK → Prop := fun xs H Q => ∃ p ys, xs = [.ref p] ∧ (SqL K H p ys ∨ SqT K H p ys) ∧ NewL ys Q H
theorem c_listOf : CallR X (.type "list") (uListOf X.K) := call_imp call_list_of fun xs H Q ⟨p, ys, e, h, q⟩ => ⟨p, ys, e, h, q.go⟩
def uTupOf (K : PySem.W.Frag) : List V → Hp → VK → Prop := fun xs H Q => ∃ p ys, xs = [.ref p] ∧ (SqL K H p ys ∨ SqT K H p ys) ∧ NewT K ys Q H
theorem c_tupOf : CallR X (.type "tuple") (uTupOf X.K) := call_imp call_tuple_of fun xs H Q ⟨p, ys, e, h, q⟩ => ⟨p, ys, e, by
  rcases h with h | h
  · exact .inl ⟨h, q.go⟩
  · exact .inr ⟨h, q.it h⟩⟩
def uLenS : List V → Hp → VK → Prop := fun xs H Q => ∃ z, xs = [.str z] ∧ z.length ≤ 1000000 ∧ Q (.int z.length) H
theorem c_lenS : CallR X (.builtin "len") uLenS := call_imp call_len_str fun xs H Q ⟨z, e, h, q⟩ => ⟨z, e, sz h, q⟩
def uLenL (K : PySem.W.Frag) : List V → Hp → VK → Prop := fun xs H Q => ∃ p ys, xs = [.ref p] ∧ SqL K H p ys ∧ Q (.int ys.length) H
theorem c_lenL : CallR X (.builtin "len") (uLenL X.K) := call_imp call_len_seq fun xs H Q ⟨p, ys, e, h, q⟩ => ⟨p, ys, e, .inl h, q⟩
def uLenT (K : PySem.W.Frag) : List V → Hp → VK → Prop := fun xs H Q => ∃ p ys, xs = [.ref p] ∧ SqT K H p ys ∧ Q (.int ys.length) H
theorem c_lenT : CallR X (.builtin "len") (uLenT X.K) := call_imp call_len_seq fun xs H Q ⟨p, ys, e, h, q⟩ => ⟨p, ys, e, .inr h, q⟩

/-! #### monotone readings -/
def tMo (t : TE) : TE := fun σ H Q => ∃ Q0 : VK, t σ H Q0 ∧ ∀ x H1, Q0 x H1 → Q x H1
theorem e_mo {e : Expr} {te : TE} (h : PE X e te) : PE X e (tMo te) := ⟨fun pins s σ H Q I ⟨Q0, q, m⟩ => thn (h.run pins s σ H Q0 I q) fun u s' ⟨v, H', J, r, z⟩ => ⟨v, H', J, r, m v H' z⟩⟩
/-! #### a list's methods; xs[i] = v -/
section
variable {o e : Expr} {to : TE} {name : Str} {apos cpos : Pos} {id : String} {r : V → List V → Hp → VK → Prop}
/-- the receiver is a list of one's own -/
def uLM (r : V → List V → Hp → VK → Prop) (to : TE) (t : TA) : TE := fun σ H Q => to σ H fun x H1 => ∃ l ys, x = .ref l ∧ H1 l = some (.lst ys) ∧ t σ H1 fun xs H2 => r x xs H2 Q
def uLM0 (r : V → List V → Hp → VK → Prop) (to : TE) : TE := fun σ H Q => to σ H fun x H1 => ∃ l ys, x = .ref l ∧ H1 l = some (.lst ys) ∧ r x [] H1 Q
theorem e_lm (slot : Slot "list" name id) (hty : typeOf (.builtin id) = pure (.type "method_descriptor")) (hm : MtR X id r) (ho : PE X o to) (ha : PA X (e :: es) t)
    (hbase : attributeBase o name X.env (eval o X.env) = eval o X.env := by rfl)
    (hfew : ((backTo cpos (starEach (e :: es) X.env)).all (fun x => !x.1) && (backToKw cpos (keywordEach [] X.env)).all (fun x => x.1.isSome) && decide ((e :: es).length + ([] : List Keyword).length + (if ([] : List Keyword).isEmpty then 0 else 1) < 30)) = true := by rfl)
    (hline : (apos.endLine == cpos.line) = true := by rfl) (hs : starEach (e :: es) X.env = (false, eval e X.env) :: starEach es X.env := by rfl) (hplain : (backTo cpos (starEach es X.env)).any (·.1) = false := by rfl) :
    PE X (.Call (.Attribute o name apos) (e :: es) [] cpos) (uLM r to t) :=
  imp_te (pe_bm PySem.F.plainAttrs_list slot hty hm (e_mo ho) ha hbase hfew hline hs hplain) fun σ H Q q => ⟨_, q, fun x H1 ⟨l, ys, ex, h, q1⟩ => ⟨by subst ex; exact .inl ⟨rfl, ys, .of h⟩, q1⟩⟩
theorem e_lm0 (slot : Slot "list" name id) (hty : typeOf (.builtin id) = pure (.type "method_descriptor")) (hm : MtR X id r) (ho : PE X o to)
    (hbase : attributeBase o name X.env (eval o X.env) = eval o X.env := by rfl) (hline : (apos.endLine == cpos.line) = true := by rfl) : PE X (.Call (.Attribute o name apos) [] [] cpos) (uLM0 r to) :=
  imp_te (pe_bm0 PySem.F.plainAttrs_list slot hty hm (e_mo ho) hbase hline) fun σ H Q q => ⟨_, q, fun x H1 ⟨l, ys, ex, h, q1⟩ => ⟨by subst ex; exact .inl ⟨rfl, ys, .of h⟩, q1⟩⟩
end
def uAppend : V → List V → Hp → VK → Prop := fun x vs H Q => ∃ l xs y, x = .ref l ∧ vs = [y] ∧ H l = some (.lst xs) ∧ xs.length < 1000000 ∧ PutO l (.lst (xs ++ [y])) (Q .non) H
theorem m_append : MtR X "list.append" uAppend := mt_imp mt_append fun x vs H Q ⟨l, xs, y, e1, e2, h, z, q⟩ => ⟨l, xs, y, e1, e2, h, sz1 z, q.go h trivial⟩
def uExtend : V → List V → Hp → VK → Prop := fun x vs H Q => ∃ l b xs zs, x = .ref l ∧ vs = [.ref b] ∧ H l = some (.lst xs) ∧ H b = some (.lst zs) ∧ xs.length + zs.length ≤ 1000000 ∧ PutO l (.lst (xs ++ zs)) (Q .non) H
theorem m_extend : MtR X "list.extend" uExtend := mt_imp mt_extend fun x vs H Q ⟨l, b, xs, zs, e1, e2, h, hb, z, q⟩ => ⟨l, b, xs, zs, e1, e2, h, hb, sz z, q.go h trivial⟩
/-- xs.pop(): its last; xs.pop(j) -/
def uPop : V → List V → Hp → VK → Prop := fun x vs H Q => ∃ l xs y, x = .ref l ∧ vs = [] ∧ H l = some (.lst (xs ++ [y])) ∧ PutO l (.lst xs) (Q y) H
theorem m_pop : MtR X "list.pop" uPop := mt_imp mt_pop fun x vs H Q ⟨l, xs, y, e1, e2, h, q⟩ => by
  refine ⟨l, _, y, e1, e2, h, by simp, ?_⟩
  rw [List.dropLast_concat]
  exact q.go h trivial
def uPopAt : V → List V → Hp → VK → Prop := fun x vs H Q => ∃ l xs, ∃ k : Int, ∃ y, x = .ref l ∧ vs = [.int k] ∧ H l = some (.lst xs) ∧ (0 ≤ k ∧ k ≤ 1000000) ∧ xs[k.toNat]? = some y ∧ PutO l (.lst (xs.eraseIdx k.toNat)) (Q y) H
theorem m_popAt : MtR X "list.pop" uPopAt := mt_imp mt_popAt fun x vs H Q ⟨l, xs, ki, y, e1, e2, h, hk, hy, q⟩ => by
  obtain ⟨k, rfl⟩ : ∃ k : Nat, ki = (k : Int) := ⟨ki.toNat, by omega⟩
  rw [Int.toNat_natCast] at hy q
  have hlt : k < xs.length := (List.getElem?_eq_some_iff.mp hy).1
  refine ⟨l, xs, k, k, y, e1, e2, h, by omega, by omega, ?_, hy, q.go h trivial⟩
  obtain ⟨j, h1, h2, h3, _⟩ := atI_get (atI_nat hy)
  have e := (List.getElem?_eq_some_iff.mp h2)
  rw [h1]
  have : j = k := by
    have n1 : ¬ ((k : Int) < 0) := by omega
    simp only [seqIndex?] at h1
    first
      | (split at h1 <;> simp_all <;> omega)
      | (simp_all; omega)
  rw [this]
def uInsert : V → List V → Hp → VK → Prop := fun x vs H Q => ∃ l xs, ∃ i : Int, ∃ y, x = .ref l ∧ vs = [.int i, y] ∧ H l = some (.lst xs) ∧ xs.length < 1000000 ∧ (0 ≤ i ∧ i ≤ 1000000) ∧ PutO l (.lst (xs.take i.toNat ++ [y] ++ xs.drop i.toNat)) (Q .non) H
theorem m_insert : MtR X "list.insert" uInsert := mt_imp mt_insert fun x vs H Q ⟨l, xs, i, y, e1, e2, h, z, hi, q⟩ => ⟨l, xs, i, y, e1, e2, h, sz1 z, by omega, by omega, q.go h trivial⟩
/-- xs[j] = v -/
def uSetL : V → V → V → Hp → (Hp → Prop) → Prop := fun o i v H Q => ∃ p xs, ∃ j : Int, o = .ref p ∧ i = .int j ∧ H p = some (.lst xs) ∧ (0 ≤ j ∧ j < xs.length) ∧ PutO p (.lst (xs.set j.toNat v)) Q H
theorem ixN_nat {n j : Nat} (h : j < n) : ixN n (j : Int) = some j := by
  unfold ixN
  first
    | (rw [if_pos (by omega)]; simp; done)
    | (simp; omega)
    | (split <;> simp_all <;> omega)
theorem s_list : PSet X uSetL := set_imp set_list fun o i v H Q ⟨p, xs, ji, e1, e2, h, hj, q⟩ => by
  obtain ⟨j, rfl⟩ : ∃ j : Nat, ji = (j : Int) := ⟨ji.toNat, by omega⟩
  rw [Int.toNat_natCast] at q
  exact ⟨p, xs, j, j, e1, e2, h, ixN_nat (by omega), q.go h trivial⟩
/-- xs[j] of a list, of a tuple, of a text, by a whole number -/
theorem at_int {α : Type} {xs : List α} {i : Int} {v : α} (h0 : 0 ≤ i) (h : xs[i.toNat]? = some v) : atI xs i = some v := by
  have e : i = (i.toNat : Int) := by omega
  rw [e]
  exact atI_nat h
theorem sIx_pos {n d : Nat} {v : Int} (h : 0 ≤ v) : HT.sIx n d (some v) = min v.toNat n := by
  show (if v < 0 then _ else min v.toNat n) = _
  rw [if_neg (by omega)]
theorem cut_to {xs : List V} {v : Int} (h : 0 ≤ v) : cutV xs none (some v) = xs.take v.toNat := by
  unfold cutV
  rw [sIx_pos h, HT.sIx_none, List.drop_zero, Nat.sub_zero]
  by_cases c : v.toNat ≤ xs.length
  · rw [Nat.min_eq_left c]
  · rw [Nat.min_eq_right (by omega), List.take_length, List.take_of_length_le (by omega)]
theorem cut_from {xs : List V} {v : Int} (h : 0 ≤ v) : cutV xs (some v) none = xs.drop v.toNat := by
  unfold cutV
  rw [sIx_pos h, HT.sIx_none]
  by_cases c : v.toNat ≤ xs.length
  · rw [Nat.min_eq_left c, List.take_of_length_le (by rw [List.length_drop]; omega)]
  · rw [Nat.min_eq_right (by omega), List.drop_length, List.drop_of_length_le (by omega), List.take_nil]
theorem cut_in {xs : List V} {u v : Int} (hu : 0 ≤ u) (h : 0 ≤ v) : cutV xs (some u) (some v) = (xs.take v.toNat).drop u.toNat := by
  unfold cutV
  rw [sIx_pos h, sIx_pos hu, List.drop_take]
  by_cases c : u.toNat ≤ xs.length
  · rw [Nat.min_eq_left c]
    by_cases c2 : v.toNat ≤ xs.length
    · rw [Nat.min_eq_left c2]
    · rw [Nat.min_eq_right (by omega), List.take_of_length_le (by rw [List.length_drop]; omega), List.take_of_length_le (by rw [List.length_drop]; omega)]
  · rw [Nat.min_eq_right (show xs.length ≤ u.toNat by omega), List.drop_length, List.drop_of_length_le (show xs.length ≤ u.toNat by omega), List.take_nil, List.take_nil]
theorem cut_last {xs : List V} {k : Nat} (hk : 0 < k) : cutV xs (some (-(k : Int))) none = xs.drop (xs.length - k) := by
  unfold cutV
  rw [HT.sIx_none]
  have e : HT.sIx xs.length 0 (some (-(k : Int))) = xs.length - k := by
    show (if (-(k : Int)) < 0 then (-(k : Int) + (xs.length : Int)).toNat else _) = _
    rw [if_pos (by omega)]
    omega
  rw [e, List.take_of_length_le (by rw [List.length_drop]; omega)]
theorem cutS_to {z : Str} {v : Int} (h : 0 ≤ v) : cutS z none (some v) = ⟨(z.cps.toList.take v.toNat).toArray⟩ := by
  unfold cutS
  rw [sIx_pos h, HT.sIx_none, List.drop_zero, Nat.sub_zero]
  have e : z.length = z.cps.toList.length := by simp [Str.length]
  rw [e]
  by_cases c : v.toNat ≤ z.cps.toList.length
  · rw [Nat.min_eq_left c]
  · rw [Nat.min_eq_right (by omega), List.take_length, List.take_of_length_le (by omega)]
theorem cutS_from {z : Str} {v : Int} (h : 0 ≤ v) : cutS z (some v) none = ⟨(z.cps.toList.drop v.toNat).toArray⟩ := by
  unfold cutS
  rw [sIx_pos h, HT.sIx_none]
  have e : z.length = z.cps.toList.length := by simp [Str.length]
  rw [e]
  by_cases c : v.toNat ≤ z.cps.toList.length
  · rw [Nat.min_eq_left c, List.take_of_length_le (by rw [List.length_drop]; omega)]
  · rw [Nat.min_eq_right (by omega), List.drop_length, List.drop_of_length_le (by omega), List.take_nil]
theorem cutS_in {z : Str} {u v : Int} (hu : 0 ≤ u) (h : 0 ≤ v) : cutS z (some u) (some v) = ⟨((z.cps.toList.take v.toNat).drop u.toNat).toArray⟩ := by
  unfold cutS
  have e : z.length = z.cps.toList.length := by simp [Str.length]
  rw [sIx_pos h, sIx_pos hu, List.drop_take, e]
  generalize z.cps.toList = xs
  by_cases c : u.toNat ≤ xs.length
  · rw [Nat.min_eq_left c]
    by_cases c2 : v.toNat ≤ xs.length
    · rw [Nat.min_eq_left c2]
    · rw [Nat.min_eq_right (by omega), List.take_of_length_le (by rw [List.length_drop]; omega), List.take_of_length_le (by rw [List.length_drop]; omega)]
  · rw [Nat.min_eq_right (show xs.length ≤ u.toNat by omega), List.drop_length, List.drop_of_length_le (show xs.length ≤ u.toNat by omega), List.take_nil, List.take_nil]
theorem len_ne {n : Nat} {k : Int} (h : (n : Int) ≠ k) : ¬ decide (V.int n = V.int k) = true := fun q => by
  have := of_decide_eq_true q
  cases this
  exact h rfl
theorem atI0 {α : Type} {x : α} {xs : List α} : atI (x :: xs) 0 = some x := at_int (by decide) rfl
theorem atI1 {α : Type} {x y : α} {xs : List α} : atI (x :: y :: xs) 1 = some y := at_int (by decide) rfl
theorem atI2 {α : Type} {x y z : α} {xs : List α} : atI (x :: y :: z :: xs) 2 = some z := at_int (by decide) rfl
/-! #### is it a list, a tuple, empty; equal to an empty one -/
theorem ints_dp {K : PySem.W.Frag} {H : Hp} : ∀ ns : List Int, DpAll K H (ns.map V.int) (ns.map PyData.int)
  | [] => .nil
  | n :: r => .cons (.int n) (ints_dp r)
theorem strs_dp {K : PySem.W.Frag} {H : Hp} : ∀ ns : List Str, DpAll K H (ns.map V.str) (ns.map PyData.str)
  | [] => .nil
  | n :: r => .cons (.str n) (strs_dp r)
/-- == of two lists of which one is empty -/
def uEqNil (K : PySem.W.Frag) (neg : Bool) : R2 := fun x y H Q => ∃ a b xs, x = .ref a ∧ y = .ref b ∧ SqL K H a xs ∧ SqL K H b [] ∧ Q (.bl (if neg then !xs.isEmpty else xs.isEmpty)) H
theorem eq_nil_at {pins : List (Addr × Obj)} {s : Shared} {σ : L2.St} {H : Hp} {a b : Addr} {xs : List V} (hu : X.A.units < cLine) (I : Inv X pins σ H s) (ha : SqL X.K H a xs) (hb : SqL X.K H b []) : SeqAt.EqAt X.A s (.ref a) (.ref b) xs.isEmpty := by
  obtain ⟨is, r1, p1, z1⟩ := I.list ha
  obtain ⟨js, r2, p2, z2⟩ := I.list hb
  cases r2
  obtain ⟨o1, n1, g1, c1, d1, e1⟩ := p1
  obtain ⟨o2, n2, g2, c2, d2, e2⟩ := p2
  cases xs with
  | nil =>
    cases r1
    by_cases hab : a = b
    · subst hab
      exact SeqAt.EqAt.same _
    · exact SeqAt.EqAt.of_refs hab (SeqAt.RcAt.lists (e := fun _ => true) ⟨o1, g1, c1, n1, e1⟩ ⟨o2, g2, c2, n2, e2⟩ rfl hu (fun j h1 _ => absurd h1 (by simp)))
  | cons y ys =>
    have hab : a ≠ b := fun z => by
      subst z
      have := I.list_inj ha hb
      cases this
    have hl := r1.length
    refine SeqAt.EqAt.of_refs hab (SeqAt.RcAt.lists_lengths ⟨o1, g1, c1, n1, e1⟩ ⟨o2, g2, c2, n2, e2⟩ ?_ hu)
    simp only [List.size_toArray]
    rw [← hl]
    rfl
theorem ne_nil_at {pins : List (Addr × Obj)} {s : Shared} {σ : L2.St} {H : Hp} {a b : Addr} {xs : List V} (hu : X.A.units < cLine) (I : Inv X pins σ H s) (ha : SqL X.K H a xs) (hb : SqL X.K H b []) : SeqAt.RcNeAt X.A s (.ref a) (.ref b) (!xs.isEmpty) := by
  obtain ⟨is, r1, p1, z1⟩ := I.list ha
  obtain ⟨js, r2, p2, z2⟩ := I.list hb
  cases r2
  obtain ⟨o1, n1, g1, c1, d1, e1⟩ := p1
  obtain ⟨o2, n2, g2, c2, d2, e2⟩ := p2
  cases xs with
  | nil =>
    cases r1
    exact SeqAt.RcNeAt.lists (e := fun _ => true) ⟨o1, g1, c1, n1, e1⟩ ⟨o2, g2, c2, n2, e2⟩ rfl hu (fun j h1 _ => absurd h1 (by simp))
  | cons y ys =>
    have hl := r1.length
    refine SeqAt.RcNeAt.lists_lengths ⟨o1, g1, c1, n1, e1⟩ ⟨o2, g2, c2, n2, e2⟩ ?_ hu
    simp only [List.size_toArray]
    rw [← hl]
    rfl
theorem rc_nil_at {pins : List (Addr × Obj)} {s : Shared} {σ : L2.St} {H : Hp} {a b : Addr} {xs : List V} (hu : X.A.units < cLine) (I : Inv X pins σ H s) (ha : SqL X.K H a xs) (hb : SqL X.K H b []) : SeqAt.RcAt X.A s (.ref a) (.ref b) xs.isEmpty := by
  obtain ⟨is, r1, p1, z1⟩ := I.list ha
  obtain ⟨js, r2, p2, z2⟩ := I.list hb
  cases r2
  obtain ⟨o1, n1, g1, c1, d1, e1⟩ := p1
  obtain ⟨o2, n2, g2, c2, d2, e2⟩ := p2
  cases xs with
  | nil =>
    cases r1
    exact SeqAt.RcAt.lists (e := fun _ => true) ⟨o1, g1, c1, n1, e1⟩ ⟨o2, g2, c2, n2, e2⟩ rfl hu (fun j h1 _ => absurd h1 (by simp))
  | cons y ys =>
    have hl := r1.length
    refine SeqAt.RcAt.lists_lengths ⟨o1, g1, c1, n1, e1⟩ ⟨o2, g2, c2, n2, e2⟩ ?_ hu
    simp only [List.size_toArray]
    rw [← hl]
    rfl
theorem o_eqNil (hu : X.A.units < cLine) : OpR X (compareOp .Eq) (uEqNil X.K false) := fun pins s σ H x y v u Q I rx ry ⟨a, b, xs, ex, ey, ha, hb, q⟩ => by
  subst ex ey
  cases rx
  cases ry
  exact rc_nil_at hu I ha hb X.prog X.w _ _ ⟨.bl _, H, I, rfl, q⟩
theorem o_neNil (hu : X.A.units < cLine) : OpR X (compareOp .NotEq) (uEqNil X.K true) := fun pins s σ H x y v u Q I rx ry ⟨a, b, xs, ex, ey, ha, hb, q⟩ => by
  subst ex ey
  cases rx
  cases ry
  exact ne_nil_at hu I ha hb X.prog X.w _ _ ⟨.bl _, H, I, rfl, q⟩
/-- the same of tuples -/
def uEqNilT (K : PySem.W.Frag) (neg : Bool) : R2 := fun x y H Q => ∃ a b xs, x = .ref a ∧ y = .ref b ∧ SqT K H a xs ∧ SqT K H b [] ∧ Q (.bl (if neg then !xs.isEmpty else xs.isEmpty)) H
theorem tup_nil_at {pins : List (Addr × Obj)} {s : Shared} {σ : L2.St} {H : Hp} {a b : Addr} {xs : List V} (hu : X.A.units < cLine) (I : Inv X pins σ H s) (ha : SqT X.K H a xs) (hb : SqT X.K H b []) :
    SeqAt.RcAt X.A s (.ref a) (.ref b) xs.isEmpty ∧ SeqAt.RcNeAt X.A s (.ref a) (.ref b) (!xs.isEmpty) := by
  obtain ⟨is, r1, ⟨o1, g1, c1, n1, e1⟩, z1⟩ := I.tuple ha
  obtain ⟨js, r2, ⟨o2, g2, c2, n2, e2⟩, z2⟩ := I.tuple hb
  cases r2
  have hl := r1.length
  have key : ((List.range (min is.toArray.size ([] : List Value).toArray.size)).all (fun _ => true) && is.toArray.size == ([] : List Value).toArray.size) = xs.isEmpty := by
    simp only [List.size_toArray]
    rw [← hl]
    cases xs <;> simp
  have h1 := SeqAt.RcAt.tuples (A := X.A) (s := s) (e := fun _ => true) ⟨o1, g1, c1, n1, e1⟩ ⟨o2, g2, c2, n2, e2⟩ hu (fun j _ h2 => absurd h2 (by simp))
  have h2 := SeqAt.RcNeAt.tuples (A := X.A) (s := s) (e := fun _ => true) ⟨o1, g1, c1, n1, e1⟩ ⟨o2, g2, c2, n2, e2⟩ hu (fun j _ h2 => absurd h2 (by simp))
  rw [key] at h1 h2
  exact ⟨h1, h2⟩
theorem o_eqNilT (hu : X.A.units < cLine) : OpR X (compareOp .Eq) (uEqNilT X.K false) := fun pins s σ H x y v u Q I rx ry ⟨a, b, xs, ex, ey, ha, hb, q⟩ => by
  subst ex ey
  cases rx
  cases ry
  exact (tup_nil_at hu I ha hb).1 X.prog X.w _ _ ⟨.bl _, H, I, rfl, q⟩
theorem o_neNilT (hu : X.A.units < cLine) : OpR X (compareOp .NotEq) (uEqNilT X.K true) := fun pins s σ H x y v u Q I rx ry ⟨a, b, xs, ex, ey, ha, hb, q⟩ => by
  subst ex ey
  cases rx
  cases ry
  exact (tup_nil_at hu I ha hb).2 X.prog X.w _ _ ⟨.bl _, H, I, rfl, q⟩

/-! #### isinstance, by the kind's name -/
/-- x is of the built-in kind n -/
abbrev Kd (K : PySem.W.Frag) (H : Hp) (x : V) (n : String) : Prop := TyX K H x (.type n)
def isB (n m : String) : Bool := n == m || (n == "bool" && m == "int")
def kinds : List String := ["int", "str", "bool", "NoneType", "list", "tuple", "dict"]
theorem kit_all : ∀ n ∈ kinds, ∀ m ∈ kinds, m ≠ "NoneType" → kitB n m = some (isB n m) := by decide +kernel
section
variable {K : PySem.W.Frag} {H : Hp}
theorem kd_int {i : Int} : Kd K H (.int i) "int" := .base (.int i)
theorem kd_str {z : Str} : Kd K H (.str z) "str" := .base (.str z)
theorem kd_bl {b : Bool} : Kd K H (.bl b) "bool" := .base (.bl b)
theorem kd_non : Kd K H .non "NoneType" := .base .non
theorem kd_lst {p : Addr} {xs : List V} (h : H p = some (.lst xs)) : Kd K H (.ref p) "list" := .base (.lst h)
theorem kd_tup {p : Addr} {xs : List V} (h : SqT K H p xs) : Kd K H (.ref p) "tuple" := by
  rcases h with (h | ⟨o, h⟩) | ⟨o, its, n, h, c, _⟩
  · exact .base (.tup h)
  · exact .fTuple h
  · exact .kTuple h c
end
def uIsi (K : PySem.W.Frag) : List V → Hp → VK → Prop := fun xs H Q => ∃ x m n, xs = [x, .ty m] ∧ Kd K H x n ∧ n ∈ kinds ∧ (m ∈ kinds ∧ m ≠ "NoneType") ∧ Q (.bl (isB n m)) H
theorem c_isi : CallR X (.builtin "isinstance") (uIsi X.K) := call_imp call_isi fun xs H Q ⟨x, m, n, e, k, hn, hm, q⟩ => ⟨x, .ty m, .type n, .type m, _, e, .ty m, k, kit_ty (kit_all n hn m hm.1 hm.2), q⟩
/-- .. of two classes -/
def uIsi2 (K : PySem.W.Frag) : List V → Hp → VK → Prop := fun xs H Q => ∃ x tp m1 m2 n, xs = [x, .ref tp] ∧ H tp = some (.tup [.ty m1, .ty m2]) ∧ Kd K H x n ∧ n ∈ kinds ∧ (m1 ∈ kinds ∧ m1 ≠ "NoneType") ∧ (m2 ∈ kinds ∧ m2 ≠ "NoneType") ∧ Q (.bl (isB n m1 || isB n m2)) H
theorem c_isi2 : CallR X (.builtin "isinstance") (uIsi2 X.K) := call_imp call_isiT fun xs H Q ⟨x, tp, m1, m2, n, e, hp, k, hn, h1, h2, q⟩ => by
  refine ⟨x, tp, _, .type n, [.type m1, .type m2], _, e, hp, .cons (.ty m1) (.cons (.ty m2) .nil), k, ?_, q⟩
  refine kitAny_cons (kit_ty (kit_all n hn m1 h1.1 h1.2)) (fun hb => ?_) (fun hb => by rw [hb]; rfl)
  rw [hb, Bool.false_or]
  refine kitAny_cons (kit_ty (kit_all n hn m2 h2.1 h2.2)) (fun hb => ?_) (fun hb => hb)
  rw [hb]
  exact kitAny_nil

/-! #### xs[i:j] = ys -/
section
variable {o lo hi : Expr} {to tl th : TE} {p2 : Pos}
def gSlice (to tl th : TE) : TG := fun v σ H Q => to σ H fun x H1 => tl σ H1 fun i H2 => th σ H2 fun j H3 => ∃ l b xs ys, ∃ a c : Int, x = .ref l ∧ v = .ref b ∧ i = .int a ∧ j = .int c ∧ H3 l = some (.lst xs) ∧ H3 b = some (.lst ys) ∧ l ≠ b ∧ (0 ≤ a ∧ a ≤ c ∧ c ≤ xs.length) ∧
  xs.length + ys.length ≤ 1000000 ∧ PutO l (.lst (xs.take a.toNat ++ ys ++ xs.drop c.toNat)) (Q σ) H3
theorem g_slice (ho : PE X o to) (hl : PE X lo tl) (hh : PE X hi th)
    (ha : ∀ v, assign (.Subscript o (.Slice (some lo) (some hi) none p2) pos) X.env v = (do
      let ov ← holding [v] (eval o X.env)
      let iv ← holding [v, ov] (eval (.Slice (some lo) (some hi) none p2) X.env)
      standAt pos
      holding [v, ov, iv] (setItem ov iv v)
      release [iv, v, ov] []) := by intro _; rfl) : PG X (.Subscript o (.Slice (some lo) (some hi) none p2) pos) (gSlice to tl th) := by
  refine ⟨fun pins s σ H v u Q I r h => ?_⟩
  rw [ha]
  refine wpAny_bind (wpAny_holding (thn (ho.run pins s σ H _ I h) fun ov s1 ⟨x, H1, I1, r1, q1⟩ => ?_))
  refine wpAny_bind (wpAny_holding (wpAny_Slice ?_))
  rw [evalPart_some]
  refine thn (hl.run pins s1 σ H1 _ I1 q1) fun vl s2 ⟨i, H2, I2, r2, q2⟩ => ?_
  rw [evalPart_some]
  refine thn (hh.run pins s2 σ H2 _ I2 q2) fun vh s3 ⟨j, H3, I3, r3, l, b, xs, ys, a, c, ex, ev, ei, ej, hL, hB, ne, ⟨a0, ac, cl⟩, z, q3⟩ => ?_
  rw [evalPart_none]
  refine wpAny_pure ?_
  subst ex ev ei ej
  cases r1
  cases r
  have I4 : Inv X pins σ H3 { s3 with heap := s3.heap.push { cls := .type "slice", data := .fields #[vl, vh, .none] } } := I3.kept (t' := s3.toks) fun b ob q => Heap.get?_push_of_some _ q
  refine wpAny_bind (wpAny_standAt (wpAny_bind (wpAny_holding (set_slice I4 hL hB ne (Heap.IsSliceOf.new ..) r2 r3 (by omega) (by omega) (by omega) (sz z) fun s5 I5 => ?_))))
  refine wpAny_release ⟨σ, _, I5, ?_⟩
  exact q3.go hL trivial
end

/-! #### fields -/
section
variable {o e value : Expr} {to te : TE} {f : Str} {C : Addr} {pos' : Pos}
def uGet (C : Addr) (f : Str) (te : TE) : TE := fun σ H Q => te σ H fun x H1 => ∃ a dx fs v, x = .ref a ∧ H1 a = some (.ins C dx fs) ∧ fs.lookup f = some v ∧ Q v H1
theorem e_get (c : Cls X.K C) (n : NoAttr X.K C f) (he : PE X e te) (hb : attributeBase e f X.env (eval e X.env) = eval e X.env := by rfl) : PE X (.Attribute e f pos) (uGet C f te) :=
  imp_te (pe_fld (e_mo he) hb) fun σ H Q q => ⟨_, q, fun x H1 ⟨a, dx, fs, v, ex, h, l, q1⟩ => ⟨a, C, dx, fs, v, ex, h, c, n, l, q1⟩⟩
def uFld (C : Addr) (f : Str) (to te : TE) : TS := fun D σ H => te σ H fun y H1 => to σ H1 fun x H2 => ∃ a dx fs, x = .ref a ∧ H2 a = some (.ins C dx fs) ∧ fs.length < 1000 ∧ PutO a (.ins C dx (putF f y fs)) (D.nx σ) H2
theorem s_fld (c : Cls X.K C) (n : NoAttr X.K C f) (ho : PE X o to) (hv : PE X value te) (hs : swapsWith value (some (.Attribute o f pos')) pos.line X.env = pure false := by rfl) : PS X (.Assign [.Attribute o f pos'] value pos) (uFld C f to te) :=
  imp_ps (ps_fld (e_mo ho) (e_mo hv) hs) fun D σ H q => ⟨_, q, fun y H1 q1 => ⟨_, q1, fun x H2 ⟨a, dx, fs, ex, h, l, q2⟩ => ⟨a, C, dx, fs, ex, h, c, n, l, q2.go h trivial⟩⟩⟩
end
/-! a new instance, its __init__ -/
section
variable {j k : Nat} {C : Addr} {x : Str} {sp : Sp} {p : Pos} {e : Expr} {E : XK}
def uMak (C : Addr) (sp : Sp) (E : XK) (t : TA) : TE := fun σ H Q => t σ H fun vs H1 => ∀ a dx H2, H1 a = none → Fr [] H1 H2 → H2 a = some (.ins C dx []) → sp (.ref a :: vs) H2 (fun v H3 => v = .non ∧ Q (.ref a) H3) E
def tMoA (t : TA) : TA := fun σ H Q => ∃ Q0 : List V → Hp → Prop, t σ H Q0 ∧ ∀ xs H1, Q0 xs H1 → Q xs H1
theorem a_mo {es : List Expr} {t : TA} (h : PA X es t) : PA X es (tMoA t) := ⟨fun pos pins s σ H Q I ⟨Q0, q, m⟩ => thn (h.run pos pins s σ H Q0 I q) fun us s' ⟨vs, H', J, r, z⟩ => ⟨vs, H', J, r, m vs H' z⟩⟩
theorem e_mak (c : Mak X.prog X.w X.K X.mg X.base k x C sp) (hr : Room j X.A) (hk : k + 1 ≤ j) (hg : Gl X x) (hx : Passes (L2.CX X.prog X.w) X E) (ha : PA X (e :: es) t)
    (hdb : (x == ("__debug__" : Str)) = false := by decide) (he : starEach (e :: es) X.env = (false, eval e X.env) :: starEach es X.env := by rfl) (hpl : (backTo pos (starEach es X.env)).any (·.1) = false := by rfl) :
    PE X (.Call (.Name x p) (e :: es) [] pos) (uMak C sp E t) :=
  imp_te (mak c hr hk hg hx (a_mo ha) hdb he hpl) fun σ H Q q => ⟨_, q, fun vs H1 q1 y dx ny ndy ne => q1 y dx _ ny ((Fr.new ndy).trans (.new (by rw [upd_ne (Ne.symm ne)]; exact ny))) upd_same⟩
end

/-! #### comprehensions: over any walk, the list so far as a letter -/
def uLc (wi : TI) (g : TG) (tt : TT) (te : TE) (vs : List Nat) : TE := fun σ H Q => wi σ H fun J H1 => ∃ (n : Nat) (G : Hp → Prop) (Y : Nat → Hp → V → Hp → Prop), Walk J n G Y ∧ n ≤ 100000 ∧ ∀ D H2, H1 D = none → Fr [] H1 H2 → H2 D = some (.lst []) →
  ∃ Pv : Nat → List V → Hp → Prop, Pv 0 [] H2 ∧ (∀ i acc H, i ≤ n → Pv i acc H → acc.length ≤ i ∧ H D = some (.lst acc) ∧ G H) ∧
  (∀ i x acc H H', i < n → Pv i acc H → Y i H x H' → g x (wipe σ vs) H' fun σ2 H3 => wipe σ2 vs = wipe σ vs ∧ tt σ2 H3 fun b H4 => if b = true then te σ2 H4 fun y H5 => H5 D = some (.lst acc) ∧ PutO D (.lst (acc ++ [y])) (Pv (i + 1) (acc ++ [y])) H5 else Pv (i + 1) acc H4) ∧
  ∀ acc H, Pv n acc H → Q (.ref D) H
/-! a reading made monotone, of each sort -/
def tMoT (t : TT) : TT := fun σ H Q => ∃ Q0 : Bool → Hp → Prop, t σ H Q0 ∧ ∀ x H1, Q0 x H1 → Q x H1
def tMoI (t : TI) : TI := fun σ H R => ∃ R0 : It → Hp → Prop, t σ H R0 ∧ ∀ J H1, R0 J H1 → R J H1
def tMoG (t : TG) : TG := fun v σ H Q => ∃ Q0 : L2.St → Hp → Prop, t v σ H Q0 ∧ ∀ x H1, Q0 x H1 → Q x H1
theorem t_mo {e : Expr} {t : TT} (h : PT X e t) : PT X e (tMoT t) := ⟨fun pins s σ H Q I ⟨Q0, q, m⟩ => thn (h.run pins s σ H Q0 I q) fun b s' ⟨H', J, z⟩ => ⟨H', J, m b H' z⟩⟩
theorem ts_mo {es : List Expr} {t : TT} (h : PTs X es t) : PTs X es (tMoT t) := ⟨fun pins s σ H Q I ⟨Q0, q, m⟩ => thn (h.run pins s σ H Q0 I q) fun b s' ⟨H', J, z⟩ => ⟨H', J, m b H' z⟩⟩
theorem i_mo {tg it : Expr} {t : TI} (h : PI X tg it t) : PI X tg it (tMoI t) := ⟨fun pins s σ H R I ⟨R0, q, m⟩ => thn (h.run pins s σ H R0 I q) fun v s1 q1 => thn q1 fun u s2 ⟨a, fp, tn, J, H', e, I', tu, z, f, r⟩ => ⟨a, fp, tn, J, H', e, I', tu, z, f, m J H' r⟩⟩
theorem g_mo {tg : Expr} {t : TG} (h : PG X tg t) : PG X tg (tMoG t) := ⟨fun pins s σ H v u Q I r ⟨Q0, q, m⟩ => thn (h.run pins s σ H v u Q0 I r q) fun _ s' ⟨σ', H', J, z⟩ => ⟨σ', H', J, m σ' H' z⟩⟩
section
variable {wi : TI} {g : TG} {tt : TT} {te : TE} {vs : List Nat}
theorem tLc_of {σ : L2.St} {H : Hp} {Q : VK} (h : uLc wi g tt te vs σ H Q) : tLc (tMoI wi) (tMoG g) (tMoT tt) (tMo te) vs σ H Q := by
  refine ⟨_, h, fun J H1 q D hD => ?_⟩
  obtain ⟨n, G, Y, w, z, q⟩ := q
  obtain ⟨Pv, p0, p1, p2, p3⟩ := q D _ hD (.new hD) upd_same
  refine lc_it w (Pv := fun i H => ∃ acc, Pv i acc H) ⟨[], p0⟩ (fun i H hi ⟨acc, p⟩ => (p1 i acc H hi p).2.2) (fun i x H H' hi ⟨acc, p⟩ y => ?_) (fun H ⟨acc, p⟩ => p3 acc H p)
  obtain ⟨l1, l2, l3⟩ := p1 i acc H (by omega) p
  refine ⟨_, p2 i x acc H H' hi p y, fun σ2 H3 ⟨e, q⟩ => ⟨e, _, q, fun b H4 q => ?_⟩⟩
  cases b with
  | true =>
    refine ⟨_, q, fun v H5 q => ?_⟩
    exact ⟨acc, q.1, sz1 (by omega), acc ++ [v], q.2.go q.1 trivial⟩
  | false => exact ⟨acc, q⟩
variable {elt tg iter : Expr} {ifs : List Expr} {scope : Scope} {own : List (Str × Nat)}
theorem e_lc (hc : X.calm = true) (hN : X.N.Nodup) (hi : PI X tg iter wi) (ok : BlkOk X.N X.env.scope scope own)
    (hg : ∀ (s : Shared) (H : Hp) (C : Addr) (cl : List (Str × Addr)) (fp : List Addr), PG (X.blk s H scope (compEnvC scope cl C X.env) fp) tg g)
    (ht : ∀ (s : Shared) (H : Hp) (C : Addr) (cl : List (Str × Addr)) (fp : List Addr), PTs (X.blk s H scope (compEnvC scope cl C X.env) fp) ifs tt)
    (he : ∀ (s : Shared) (H : Hp) (C : Addr) (cl : List (Str × Addr)) (fp : List Addr), PE (X.blk s H scope (compEnvC scope cl C X.env) fp) elt te) (hs : ∀ x, foldedSetIterable iter X.env x = pure x := by intro _; rfl) :
    PE X (.ListComp elt [⟨tg, iter, ifs, 0⟩] scope pos) (uLc wi g tt te (own.map (·.2))) :=
  imp_te (pe_lc hc hN (i_mo hi) ok (fun s H C cl fp => g_mo (hg s H C cl fp)) (fun s H C cl fp => ts_mo (ht s H C cl fp)) (fun s H C cl fp => e_mo (he s H C cl fp)) hs) fun σ H Q q => tLc_of q
variable {y : Str} {py spos : Pos} {i : Nat}
theorem s_lc (hc : X.calm = true) (hN : X.N.Nodup) (hy : X.N[i]? = some y) (hyl : X.env.scope.names.lookup y = some .local) (hsw : swapsWith (.ListComp elt [⟨tg, iter, ifs, 0⟩] scope pos) (some (.Name y py)) spos.line X.env = pure true) (hi : PI X tg iter wi) (ok : BlkOk X.N X.env.scope scope own)
    (hg : ∀ (s : Shared) (H : Hp) (C : Addr) (cl : List (Str × Addr)) (fp : List Addr), PG (X.blk s H scope (compEnvC scope cl C X.env) fp) tg g)
    (ht : ∀ (s : Shared) (H : Hp) (C : Addr) (cl : List (Str × Addr)) (fp : List Addr), PTs (X.blk s H scope (compEnvC scope cl C X.env) fp) ifs tt)
    (he : ∀ (s : Shared) (H : Hp) (C : Addr) (cl : List (Str × Addr)) (fp : List Addr), PE (X.blk s H scope (compEnvC scope cl C X.env) fp) elt te) (hs : ∀ x, foldedSetIterable iter X.env x = pure x := by intro _; rfl) :
    PS X (.Assign [.Name y py] (.ListComp elt [⟨tg, iter, ifs, 0⟩] scope pos) spos) (tAsg (uLc wi g tt te (own.map (·.2))) (gName i)) :=
  imp_ps (ps_setLc hc hN hy hyl hsw (i_mo hi) ok (fun s H C cl fp => g_mo (hg s H C cl fp)) (fun s H C cl fp => ts_mo (ht s H C cl fp)) (fun s H C cl fp => e_mo (he s H C cl fp)) hs) fun D σ H q => tLc_of q
end

/-! #### dicts with text keys -/
section
variable {o e f : Expr} {td ty tx : TE} {apos cpos : Pos}
abbrev DS (H : Hp) (a : Addr) (kvs : List (Key × V)) : Prop := H a = some (.dK kvs)
def uGet2 (td ty tx : TE) : TE := fun σ H Q => td σ H fun x H1 => ∃ a kvs0, x = .ref a ∧ DS H1 a kvs0 ∧ ty σ H1 fun y H2 => tx σ H2 fun z H3 => ∃ kvs k, DS H3 a kvs ∧ y = .str k ∧ Q ((valV kvs (Sum.inr k)).getD z) H3
theorem e_get2 (hu : X.A.units + 1 < cLine) (ho : PE X o td) (he : PE X e ty) (hf : PE X f tx) (m : M2 X o "get" apos e f cpos) : PE X (.Call (.Attribute o "get" apos) [e, f] [] cpos) (uGet2 td ty tx) :=
  imp_te (pe_dget2 hu (e_mo ho) (e_mo he) (e_mo hf) m) fun σ H Q q => ⟨_, q, fun x H1 ⟨a, kvs0, ex, h0, q1⟩ => ⟨a, ex, .inl ⟨kvs0, .inl h0⟩, _, q1, fun y H2 q2 => ⟨_, q2, fun z H3 ⟨kvs, k, h, ey, q3⟩ => ⟨_, by subst ey; exact DGet.k (k := Sum.inr k) h, q3⟩⟩⟩⟩
def uDIx (td ty : TE) : TE := fun σ H Q => td σ H fun x H1 => ty σ H1 fun y H2 => ∃ a kvs k v, x = .ref a ∧ y = .str k ∧ DS H2 a kvs ∧ valV kvs (Sum.inr k) = some v ∧ Q v H2
theorem e_dix (hu : X.A.units + 1 < cLine) (ho : PE X o td) (hi : PE X e ty) (hs : NoSl e) : PE X (.Subscript o e pos) (uDIx td ty) :=
  imp_te (pe_dget hu (e_mo ho) (e_mo hi) hs) fun σ H Q q => ⟨_, q, fun x H1 q1 => ⟨_, q1, fun y H2 ⟨a, kvs, k, v, ex, ey, h, hv, q2⟩ => ⟨a, v, ex, by subst ey; rw [← hv]; exact DGet.k (k := Sum.inr k) h, q2⟩⟩⟩
variable {value : Expr} {tv : TE} {pos' : Pos}
def uDPut (td ty tv : TE) : TS := fun D σ H => tv σ H fun v H1 => td σ H1 fun x H2 => ty σ H2 fun y H3 => ∃ a kvs k, x = .ref a ∧ y = .str k ∧ DS H3 a kvs ∧ kvs.length < 100000 ∧ PutO a (.dK (putK kvs (Sum.inr k) v)) (D.nx σ) H3
theorem s_dput (hu : X.A.units + 1 < cLine) (ho : PE X o td) (hi : PE X e ty) (hv : PE X value tv) (hs : swapsWith value (some (.Subscript o e pos')) pos.line X.env = pure false := by rfl) : PS X (.Assign [.Subscript o e pos'] value pos) (uDPut td ty tv) :=
  imp_ps (ps_dput hu (e_mo ho) (e_mo hi) (e_mo hv) hs) fun D σ H q => ⟨_, q, fun v H1 q1 => ⟨_, q1, fun x H2 q2 => ⟨_, q2, fun y H3 ⟨a, kvs, k, ex, ey, h, z, q3⟩ => ⟨a, _, ex, by subst ey; exact DPut.k (k := Sum.inr k) h (sz1 (by omega)), q3.go h trivial⟩⟩⟩⟩
theorem e_dnew : PE X (.Dict [] [] pos) (fun _ H Q => NewO (.dK []) Q H) := imp_te pe_dnewK fun σ H Q q => q.go
end

/-! #### texts -/
section
variable {o e : Expr} {to te : TE} {apos : Pos}
def uSplit (to te : TE) : TE := fun σ H Q => to σ H fun x H1 => ∃ a, x = .str a ∧ te σ H1 fun y H2 => ∃ b, y = .str b ∧ (b.length == 0) = false ∧ a.length ≤ 1000000 ∧ NewL ((Txt.split a b).map V.str) Q H2
theorem e_split (ho : PE X o to) (he : PE X e te) (hs : starEach [e] X.env = [(false, eval e X.env)] := by rfl) (hb : attributeBase o "split" X.env (eval o X.env) = eval o X.env := by rfl) (hl : (apos.endLine == pos.line) = true := by rfl) :
    PE X (.Call (.Attribute o "split" apos) [e] [] pos) (uSplit to te) := by
  have h := pe_split (apos := apos) (pos := pos) (e_mo ho) (e_mo he) hs hb hl
  refine imp_te h fun σ H Q q => ⟨_, q, fun x H1 ⟨a, ex, q1⟩ => ⟨⟨a, ex⟩, _, q1, fun y H2 ⟨b, ey, hb, z, q2⟩ => ?_⟩⟩
  subst ex ey
  refine ⟨a, b, rfl, rfl, hb, ?_, q2.go⟩
  have := sizeLine_eq
  omega
def uJoin (K : PySem.W.Frag) (to te : TE) : TE := fun σ H Q => to σ H fun x H1 => ∃ a, x = .str a ∧ te σ H1 fun y H2 => ∃ p, ∃ ys : List Str, y = .ref p ∧ H2 p = some (.lst (ys.map V.str)) ∧ (ys.map (·.length)).sum + ys.length * a.length ≤ 1000000 ∧ Q (.str (Txt.join a ys)) H2
theorem e_join (ho : PE X o to) (he : PE X e te) (hs : starEach [e] X.env = [(false, eval e X.env)] := by rfl) (hb : attributeBase o "join" X.env (eval o X.env) = eval o X.env := by rfl) (hl : (apos.endLine == pos.line) = true := by rfl) :
    PE X (.Call (.Attribute o "join" apos) [e] [] pos) (uJoin X.K to te) := by
  have h := pe_join (apos := apos) (pos := pos) (e_mo ho) (e_mo he) hs hb hl
  refine imp_te h fun σ H Q q => ⟨_, q, fun x H1 ⟨a, ex, q1⟩ => ⟨⟨a, ex⟩, _, q1, fun y H2 ⟨p, ys, ey, hp, z, q2⟩ => ?_⟩⟩
  subst ex ey
  exact ⟨a, p, ys, rfl, rfl, .inl (SqL.of hp), by omega, q2⟩
end
end
/-! #### data without lists: it stands in every frame -/
mutual
def flat : PyData → Bool
  | .list _ | .dict _ => false
  | .tuple ds => flatAll ds
  | .none | .bool _ | .int _ | .str _ => true
def flatAll : List PyData → Bool
  | [] => true
  | d :: ds => flat d && flatAll ds
end
section
variable {K : PySem.W.Frag} {S : List Addr} {H H' : Hp}
mutual
theorem Dp.fr (f : Fr S H H') : ∀ (d : PyData) (v : V), flat d = true → Dp K H v d → Dp K H' v d
  | .none, _, _, h => by
    cases h
    exact .non
  | .bool b, _, _, h => by
    cases h
    exact .bl b
  | .int i, _, _, h => by
    cases h
    exact .int i
  | .str z, _, _, h => by
    cases h
    exact .str z
  | .list _, _, e, _ => by cases e
  | .dict _, _, e, _ => by cases e
  | .tuple ds, _, e, h => by
    cases h with
    | tup ha hs => exact .tup (f.sqt ha) (DpAll.fr f ds _ e hs)
theorem DpAll.fr (f : Fr S H H') : ∀ (ds : List PyData) (vs : List V), flatAll ds = true → DpAll K H vs ds → DpAll K H' vs ds
  | [], _, _, h => by
    cases h
    exact .nil
  | d :: ds, _, e, h => by
    have e' := Bool.and_eq_true_iff.mp e
    cases h with
    | cons h1 h2 => exact .cons (Dp.fr f d _ e'.1 h1) (DpAll.fr f ds _ e'.2 h2)
end
mutual
theorem Dp.fr0 (f : Fr [] H H') : ∀ (d : PyData) (v : V), Dp K H v d → Dp K H' v d
  | .none, _, h => by
    cases h
    exact .non
  | .bool b, _, h => by
    cases h
    exact .bl b
  | .int i, _, h => by
    cases h
    exact .int i
  | .str z, _, h => by
    cases h
    exact .str z
  | .list ds, _, h => by
    cases h with
    | lst ha hs => exact .lst (f.sql0 ha) (DpAll.fr0 f ds _ hs)
  | .dict _, _, h => by cases h
  | .tuple ds, _, h => by
    cases h with
    | tup ha hs => exact .tup (f.sqt ha) (DpAll.fr0 f ds _ hs)
theorem DpAll.fr0 (f : Fr [] H H') : ∀ (ds : List PyData) (vs : List V), DpAll K H vs ds → DpAll K H' vs ds
  | [], _, h => by
    cases h
    exact .nil
  | d :: ds, _, h => by
    cases h with
    | cons h1 h2 => exact .cons (Dp.fr0 f d _ h1) (DpAll.fr0 f ds _ h2)
end
theorem DpAll.len : ∀ {vs : List V} {ds : List PyData}, DpAll K H vs ds → vs.length = ds.length
  | _, _, .nil => rfl
  | _, _, .cons _ h => by simp [DpAll.len h]
theorem DpAll.emp {vs : List V} {ds : List PyData} (h : DpAll K H vs ds) : vs.isEmpty = ds.isEmpty := by
  cases h <;> rfl
theorem DpAll.app {d : PyData} {v : V} (hv : Dp K H v d) : ∀ {vs : List V} {ds : List PyData}, DpAll K H vs ds → DpAll K H (vs ++ [v]) (ds ++ [d])
  | _, _, .nil => .cons hv .nil
  | _, _, .cons h h' => .cons h (DpAll.app hv h')
theorem DpAll.at : ∀ {vs : List V} {ds : List PyData} {i : Nat} {d : PyData}, DpAll K H vs ds → ds[i]? = some d → ∃ v, vs[i]? = some v ∧ Dp K H v d
  | _, _, 0, _, .cons h _, e => by
    cases e
    exact ⟨_, rfl, h⟩
  | _, _, i + 1, d, .cons _ h, e => by
    obtain ⟨v, e1, h1⟩ := DpAll.at h (i := i) (d := d) (by simpa using e)
    exact ⟨v, by simpa using e1, h1⟩
theorem DpAll.append : ∀ {vs ws : List V} {ds es : List PyData}, DpAll K H vs ds → DpAll K H ws es → DpAll K H (vs ++ ws) (ds ++ es)
  | _, _, _, _, .nil, h => h
  | _, _, _, _, .cons h h', q => .cons h (DpAll.append h' q)
theorem DpAll.snoc : ∀ {vs : List V} {ds : List PyData} {d : PyData}, DpAll K H vs (ds ++ [d]) → ∃ ws v, vs = ws ++ [v] ∧ DpAll K H ws ds ∧ Dp K H v d
  | _, [], _, .cons h h' => by
    cases h'
    exact ⟨[], _, rfl, .nil, h⟩
  | _, e :: ds, _, .cons h h' => by
    obtain ⟨ws, v, rfl, h1, h2⟩ := DpAll.snoc h'
    exact ⟨_ :: ws, v, rfl, .cons h h1, h2⟩
theorem DpAll.rep {v : V} {d : PyData} (h : Dp K H v d) : ∀ n : Nat, DpAll K H (List.replicate n v) (List.replicate n d)
  | 0 => .nil
  | n + 1 => by
    rw [List.replicate_succ, List.replicate_succ]
    exact .cons h (DpAll.rep h n)
theorem rep_flat {v : V} : ∀ n : Nat, (List.replicate n [v]).flatten = List.replicate n v
  | 0 => rfl
  | n + 1 => by
    rw [List.replicate_succ, List.flatten_cons, rep_flat n, List.replicate_succ]
    rfl
theorem DpAll.take : ∀ {vs : List V} {ds : List PyData} (i : Nat), DpAll K H vs ds → DpAll K H (vs.take i) (ds.take i)
  | _, _, 0, _ => by simpa using DpAll.nil
  | _, _, i + 1, .nil => by simpa using DpAll.nil
  | _, _, i + 1, .cons h h' => .cons h (DpAll.take i h')
theorem DpAll.drop : ∀ {vs : List V} {ds : List PyData} (i : Nat), DpAll K H vs ds → DpAll K H (vs.drop i) (ds.drop i)
  | _, _, 0, h => by simpa using h
  | _, _, i + 1, .nil => by simpa using DpAll.nil
  | _, _, i + 1, .cons h h' => DpAll.drop i h'
theorem flatAll_app : ∀ (xs ys : List PyData), flatAll (xs ++ ys) = (flatAll xs && flatAll ys)
  | [], ys => rfl
  | x :: xs, ys => by
    show (flat x && flatAll (xs ++ ys)) = (flat x && flatAll xs && flatAll ys)
    rw [flatAll_app xs ys, Bool.and_assoc]
theorem flatAll_mem : ∀ {xs : List PyData}, (∀ x ∈ xs, flat x = true) → flatAll xs = true
  | [], _ => rfl
  | x :: xs, h => Bool.and_eq_true_iff.mpr ⟨h x (by simp), flatAll_mem fun y q => h y (by simp [q])⟩
theorem flatAll_strs (ss : List Str) : flatAll (ss.map PyData.str) = true := flatAll_mem fun x h => by
  obtain ⟨s, _, rfl⟩ := List.mem_map.mp h
  rfl
/-- ints and texts are told by their data -/
theorem dp_int {v : V} {i : Int} (h : Dp K H v (.int i)) : v = .int i := by
  cases h
  rfl
theorem dp_str {v : V} {z : Str} (h : Dp K H v (.str z)) : v = .str z := by
  cases h
  rfl
theorem dp_non {v : V} (h : Dp K H v .none) : v = .non := by
  cases h
  rfl
theorem dp_bl {v : V} {b : Bool} (h : Dp K H v (.bool b)) : v = .bl b := by
  cases h
  rfl
theorem dp_tup {v : V} {ds : List PyData} (h : Dp K H v (.tuple ds)) : ∃ a xs, v = .ref a ∧ SqT K H a xs ∧ DpAll K H xs ds := by
  cases h with
  | tup h1 h2 => exact ⟨_, _, rfl, h1, h2⟩
theorem dp_lst {v : V} {ds : List PyData} (h : Dp K H v (.list ds)) : ∃ a xs, v = .ref a ∧ SqL K H a xs ∧ DpAll K H xs ds := by
  cases h with
  | lst h1 h2 => exact ⟨_, _, rfl, h1, h2⟩
theorem dp_strs : ∀ {ss : List Str} {vs : List V}, DpAll K H vs (ss.map PyData.str) → vs = ss.map V.str
  | [], _, h => by
    cases h
    rfl
  | s :: ss, _, h => by
    cases h with
    | cons h1 h2 => rw [dp_str h1, dp_strs h2]; rfl
theorem dp_ints : ∀ {ss : List Int} {vs : List V}, DpAll K H vs (ss.map PyData.int) → vs = ss.map V.int
  | [], _, h => by
    cases h
    rfl
  | s :: ss, _, h => by
    cases h with
    | cons h1 h2 => rw [dp_int h1, dp_ints h2]; rfl
end

/-! #### == of data: of none that is a bool, a dict, and not deep -/
mutual
def plainD : PyData → Bool
  | .bool _ | .dict _ => false
  | .list ds | .tuple ds => plainAll ds
  | .none | .int _ | .str _ => true
def plainAll : List PyData → Bool
  | [] => true
  | d :: ds => plainD d && plainAll ds
end
mutual
theorem eqv_iff : ∀ (d e : PyData), plainD d = true → plainD e = true → (PyData.eqv d e = true ↔ d = e)
  | .none, .none, _, _ => by simp [PyData.eqv]
  | .none, .int _, _, _ | .none, .str _, _, _ | .none, .list _, _, _ | .none, .tuple _, _, _ => by simp [PyData.eqv]
  | .int _, .none, _, _ | .int _, .str _, _, _ | .int _, .list _, _, _ | .int _, .tuple _, _, _ => by simp [PyData.eqv]
  | .str _, .none, _, _ | .str _, .int _, _, _ | .str _, .list _, _, _ | .str _, .tuple _, _, _ => by simp [PyData.eqv]
  | .list _, .none, _, _ | .list _, .int _, _, _ | .list _, .str _, _, _ | .list _, .tuple _, _, _ => by simp [PyData.eqv]
  | .tuple _, .none, _, _ | .tuple _, .int _, _, _ | .tuple _, .str _, _, _ | .tuple _, .list _, _, _ => by simp [PyData.eqv]
  | .int i, .int j, _, _ => by simp [PyData.eqv]
  | .str x, .str y, _, _ => by simp [PyData.eqv]
  | .list xs, .list ys, h, q => by
    have := eqvAll_iff xs ys h q
    simp [PyData.eqv, this]
  | .tuple xs, .tuple ys, h, q => by
    have := eqvAll_iff xs ys h q
    simp [PyData.eqv, this]
  | .bool _, _, h, _ => by cases h
  | .dict _, _, h, _ => by cases h
  | .none, .bool _, _, h | .int _, .bool _, _, h | .str _, .bool _, _, h | .list _, .bool _, _, h | .tuple _, .bool _, _, h => by cases h
  | .none, .dict _, _, h | .int _, .dict _, _, h | .str _, .dict _, _, h | .list _, .dict _, _, h | .tuple _, .dict _, _, h => by cases h
theorem eqvAll_iff : ∀ (ds es : List PyData), plainAll ds = true → plainAll es = true → (PyData.eqvAll ds es = true ↔ ds = es)
  | [], [], _, _ => by simp [PyData.eqvAll]
  | [], _ :: _, _, _ => by simp [PyData.eqvAll]
  | _ :: _, [], _, _ => by simp [PyData.eqvAll]
  | d :: ds, e :: es, h, q => by
    have h' := Bool.and_eq_true_iff.mp h
    have q' := Bool.and_eq_true_iff.mp q
    have := eqvAll_iff ds es h'.2 q'.2
    have := eqv_iff d e h'.1 q'.1
    simp_all [PyData.eqvAll]
end
/-- data that may be held against other data -/
def okD (d : PyData) : Prop := SeqAt.shaped d = true ∧ plainD d = true
def uEqD (K : PySem.W.Frag) (neg : Bool) : R2 := fun x y H Q => ∃ d e, Dp K H x d ∧ Dp K H y e ∧ okD d ∧ okD e ∧ ∀ b : Bool, (b = true ↔ d = e) → Q (.bl (if neg then !b else b)) H
theorem o_eqD (hu : X.A.units + 64 < cLine) : OpR X (compareOp .Eq) (uEqD X.K false) := op_imp (op_eqD hu) fun x y H Q ⟨d, e, hd, he, od, oe, q⟩ => ⟨d, e, hd, he, od.1, oe.1, q _ (eqv_iff d e od.2 oe.2)⟩
theorem o_neD (hu : X.A.units + 64 < cLine) : OpR X (compareOp .NotEq) (uEqD X.K true) := op_imp (op_neD hu) fun x y H Q ⟨d, e, hd, he, od, oe, q⟩ => ⟨d, e, hd, he, od.1, oe.1, q _ (eqv_iff d e od.2 oe.2)⟩
theorem okD_str {z : Str} (h : PyData.strOk z = true) : okD (.str z) := ⟨by
  unfold SeqAt.shaped
  rw [show PyData.canLay0 (.str z) = true from h]
  rfl, rfl⟩
theorem okD_int (i : Int) : okD (.int i) := ⟨rfl, rfl⟩
theorem okD_all {ds : List PyData} (h : ∀ d ∈ ds, okD d ∧ d.depth ≤ 10) : plainAll ds = true ∧ PyData.canLayAll0 ds = true ∧ PyData.depthAll ds ≤ 10 := by
  induction ds with
  | nil => exact ⟨rfl, rfl, by decide⟩
  | cons d ds ih =>
    obtain ⟨i1, i2, i3⟩ := ih fun e he => h e (by simp [he])
    obtain ⟨o, z⟩ := h d (by simp)
    refine ⟨Bool.and_eq_true_iff.mpr ⟨o.2, i1⟩, Bool.and_eq_true_iff.mpr ⟨SeqAt.canLay_of_shaped o.1, i2⟩, ?_⟩
    show max (PyData.depth d) (PyData.depthAll ds) ≤ 10
    omega
theorem okD_list {ds : List PyData} (h : ∀ d ∈ ds, okD d ∧ d.depth ≤ 10) : okD (.list ds) := by
  obtain ⟨h1, h2, h3⟩ := okD_all h
  refine ⟨Bool.and_eq_true_iff.mpr ⟨h2, decide_eq_true ?_⟩, h1⟩
  show PyData.depthAll ds + 1 ≤ 64
  omega
theorem okD_tup {ds : List PyData} (h : ∀ d ∈ ds, okD d ∧ d.depth ≤ 10) : okD (.tuple ds) := by
  obtain ⟨h1, h2, h3⟩ := okD_all h
  refine ⟨Bool.and_eq_true_iff.mpr ⟨h2, decide_eq_true ?_⟩, h1⟩
  show PyData.depthAll ds + 1 ≤ 64
  omega

/-! #### list(text); tuple * n -/
def chs (z : Str) : List Str := z.cps.toList.map fun c => ⟨#[c]⟩
def uListStr : List V → Hp → VK → Prop := fun xs H Q => ∃ z, xs = [.str z] ∧ z.length ≤ 1000000 ∧ NewL ((chs z).map V.str) Q H
theorem c_listStr (hc : X.calm = true) : CallR X (.type "list") uListStr := by
  intro pins s σ H xs us Q I r h
  obtain ⟨z, rfl, hz, q⟩ := h
  obtain ⟨u, rfl, rx⟩ := vals1 r
  obtain ⟨t, rfl⟩ := rx
  have hz' : z.cps.size ≤ sizeLine := sz hz
  refine call_list_str (I.ok.hd hc) z t (hn := hz') fun h' tk acc' c' hk hS hacc => ?_
  have hl : ((chs z).map V.str).length = z.cps.size := by simp [chs]
  refine ⟨.ref s.heap.objs.size, _, I.laid hk (Nat.le_refl _) (show ObjOk X.prog X.w _ h' _ (.lst ((chs z).map V.str)) from ⟨by rw [hl]; exact hz', acc'.toList, c', ?_, ?_⟩), rfl, q.go _ (I.hok.fresh (Nat.le_refl _))⟩
  · refine vals_of_at (by rw [hl]; simp [hacc.1]) fun j x v h1 h2 => ?_
    obtain ⟨c, u, hcc, rfl⟩ := hacc.2 j v (by rw [← Array.getElem?_toList]; exact h2)
    have e2 : ((chs z).map V.str)[j]? = some (.str ⟨#[c]⟩) := by
      rw [chs, List.map_map, List.getElem?_map, Array.getElem?_toList, hcc] <;> rfl
    rw [e2] at h1
    cases h1
    exact ⟨u, rfl⟩
  · rw [Array.toArray_toList]
    exact hS

/-! #### loops: what follows the walk stands behind a word of its own -/
@[irreducible] def ForT (J : It) (g : TG) (tb : TS) (D : Ends) (σ : L2.St) (H : Hp) : Prop := ∃ W : Nat → Nat → L2.St → Hp → Prop, (∃ m, W 0 m σ H) ∧ ∀ i m σ H, W i m σ H →
  (J.stop i H ∧ D.nx σ H) ∨ (J.go i H ∧ ∃ N : L2.St → Hp → Prop, (∀ σ' H', N σ' H' → ∃ m', m' < m ∧ W (i + 1) m' σ' H') ∧ ∀ x H', J.yld i H x H' → g x σ H' fun σ2 H2 => tb { D with nx := N, ct := N, bk := D.nx } σ2 H2)
def uFor (wi : TI) (g : TG) (tb : TS) : TS := fun D σ H => wi σ H fun J H1 => ForT J g tb D σ H1
theorem s_for {tg iter : Expr} {body : List Stmt} {wi : TI} {g : TG} {tb : TS} {pos : Pos} (hp : PassesOwn (model X.prog X.w) X.A X.env X.xe) (hc : X.calm = true) (hi : PI X tg iter wi) (hg : PG X tg g) (hb : PSs X body tb)
    (hs : ∀ x, foldedSetIterable iter X.env x = pure x := by intro _; rfl) : PS X (.For tg iter body [] pos) (uFor wi g tb) :=
  imp_ps (ps_for hp hc hi hg hb hs) fun D σ H q => by
    unfold uFor ForT at q
    exact q
section
variable {J : It} {n : Nat} {G : Hp → Prop} {Y : Nat → Hp → V → Hp → Prop} {g : TG} {tb : TS} {D : Ends} {σ : L2.St} {H : Hp}
theorem fo_it (w : Walk J n G Y) (Pv : Nat → L2.St → Hp → Prop) (h0 : Pv 0 σ H) (hG : ∀ i σ H, i ≤ n → Pv i σ H → G H)
    (hs : ∀ i x σ H H', i < n → Pv i σ H → Y i H x H' → g x σ H' fun σ2 H2 => tb { D with nx := Pv (i + 1), ct := Pv (i + 1), bk := D.nx } σ2 H2) (hd : ∀ σ H, Pv n σ H → D.nx σ H) : ForT J g tb D σ H := by
  unfold ForT
  exact for_it w Pv h0 hG hs hd
theorem fo_list {K : PySem.W.Frag} {a : Addr} (xs : List V) (Pv : Nat → L2.St → Hp → Prop) (h0 : Pv 0 σ H) (hl : ∀ i σ H, i ≤ xs.length → Pv i σ H → SqL K H a xs)
    (hs : ∀ i x σ H, xs[i]? = some x → Pv i σ H → g x σ H fun σ2 H2 => tb { D with nx := Pv (i + 1), ct := Pv (i + 1), bk := D.nx } σ2 H2) (hd : ∀ σ H, Pv xs.length σ H → D.nx σ H) : ForT (Itl K a) g tb D σ H := by
  unfold ForT
  exact for_list Pv h0 hl hs hd
theorem fo_tup {K : PySem.W.Frag} {a : Addr} (xs : List V) (Pv : Nat → L2.St → Hp → Prop) (h0 : Pv 0 σ H) (hl : ∀ i σ H, i ≤ xs.length → Pv i σ H → SqT K H a xs)
    (hs : ∀ i x σ H, xs[i]? = some x → Pv i σ H → g x σ H fun σ2 H2 => tb { D with nx := Pv (i + 1), ct := Pv (i + 1), bk := D.nx } σ2 H2) (hd : ∀ σ H, Pv xs.length σ H → D.nx σ H) : ForT (Itt K a) g tb D σ H := by
  unfold ForT
  exact for_tup Pv h0 hl hs hd
theorem fo_range {lo : Int} {n : Nat} (Pv : Nat → L2.St → Hp → Prop) (h0 : Pv 0 σ H)
    (hs : ∀ i σ H, i < n → Pv i σ H → g (.int (lo + i)) σ H fun σ2 H2 => tb { D with nx := Pv (i + 1), ct := Pv (i + 1), bk := D.nx } σ2 H2) (hd : ∀ σ H, Pv n σ H → D.nx σ H) : ForT (Itr lo n) g tb D σ H := by
  unfold ForT
  exact for_range Pv h0 hs hd
end
theorem fo_rangeN {g : TG} {tb : TS} {D : Ends} {σ : L2.St} {H : Hp} {lo n : Nat} (Pv : Nat → L2.St → Hp → Prop) (h0 : Pv 0 σ H)
    (hs : ∀ i σ H, i < n → Pv i σ H → g (.int ((lo + i : Nat) : Int)) σ H fun σ2 H2 => tb { D with nx := Pv (i + 1), ct := Pv (i + 1), bk := D.nx } σ2 H2) (hd : ∀ σ H, Pv n σ H → D.nx σ H) : ForT (Itr (lo : Int) n) g tb D σ H :=
  fo_range Pv h0 (fun i σ H hi p => by
    have e : ((lo : Int) + (i : Int)) = ((lo + i : Nat) : Int) := by omega
    rw [e]
    exact hs i σ H hi p) hd
theorem fo_range0 {g : TG} {tb : TS} {D : Ends} {σ : L2.St} {H : Hp} {n : Nat} (Pv : Nat → L2.St → Hp → Prop) (h0 : Pv 0 σ H)
    (hs : ∀ i σ H, i < n → Pv i σ H → g (.int (i : Int)) σ H fun σ2 H2 => tb { D with nx := Pv (i + 1), ct := Pv (i + 1), bk := D.nx } σ2 H2) (hd : ∀ σ H, Pv n σ H → D.nx σ H) : ForT (Itr 0 n) g tb D σ H :=
  fo_range Pv h0 (fun i σ H hi p => by
    rw [Int.zero_add]
    exact hs i σ H hi p) hd
/-- the same, with what stands behind the loop, also at a break -/
theorem fo_tupB {K : PySem.W.Frag} {J : It} {g : TG} {tb : TS} {D : Ends} {σ : L2.St} {H : Hp} {a : Addr} (xs : List V) (hJ : J = Itt K a) (Pv : Nat → L2.St → Hp → Prop) (Ed : L2.St → Hp → Prop) (h0 : Pv 0 σ H) (hl : ∀ i σ H, i ≤ xs.length → Pv i σ H → SqT K H a xs) (hE : ∀ σ H, Pv xs.length σ H → Ed σ H)
    (hd : ∀ σ H, Ed σ H → D.nx σ H) (hs : ∀ fin : (∀ σ H, Ed σ H → D.nx σ H), ∀ i x σ H, xs[i]? = some x → Pv i σ H → g x σ H fun σ2 H2 => tb { D with nx := Pv (i + 1), ct := Pv (i + 1), bk := D.nx } σ2 H2) : ForT J g tb D σ H := by
  subst hJ
  exact fo_tup xs Pv h0 hl (hs hd) fun σ H p => hd σ H (hE σ H p)
theorem fo_listB {K : PySem.W.Frag} {J : It} {g : TG} {tb : TS} {D : Ends} {σ : L2.St} {H : Hp} {a : Addr} (xs : List V) (hJ : J = Itl K a) (Pv : Nat → L2.St → Hp → Prop) (Ed : L2.St → Hp → Prop) (h0 : Pv 0 σ H) (hl : ∀ i σ H, i ≤ xs.length → Pv i σ H → SqL K H a xs) (hE : ∀ σ H, Pv xs.length σ H → Ed σ H)
    (hd : ∀ σ H, Ed σ H → D.nx σ H) (hs : ∀ fin : (∀ σ H, Ed σ H → D.nx σ H), ∀ i x σ H, xs[i]? = some x → Pv i σ H → g x σ H fun σ2 H2 => tb { D with nx := Pv (i + 1), ct := Pv (i + 1), bk := D.nx } σ2 H2) : ForT J g tb D σ H := by
  subst hJ
  exact fo_list xs Pv h0 hl (hs hd) fun σ H p => hd σ H (hE σ H p)
@[irreducible] def WhT (c : TT) (tb : TS) : TS := tWhile (tMoT c) tb
theorem s_while {c : Expr} {body : List Stmt} {tc : TT} {tb : TS} {pos : Pos} (hp : PassesOwn (model X.prog X.w) X.A X.env X.xe) (hc : PT X c tc) (hb : PSs X body tb) : PS X (.While c body [] pos) (WhT tc tb) := by
  unfold WhT
  exact ps_while hp (t_mo hc) hb
theorem wh_by {c : TT} {tb : TS} {D : Ends} {σ : L2.St} {H : Hp} (Pv : L2.St → Hp → Prop) (μ : L2.St → Hp → Nat) (h0 : Pv σ H)
    (hs : ∀ σ H, Pv σ H → c σ H fun b H1 => if b = true then tb { D with nx := fun σ' H' => Pv σ' H' ∧ μ σ' H' < μ σ H, ct := fun σ' H' => Pv σ' H' ∧ μ σ' H' < μ σ H, bk := D.nx } σ H1 else D.nx σ H1) : WhT c tb D σ H := by
  unfold WhT
  exact while_by Pv μ h0 (fun σ H p => ⟨_, hs σ H p, fun _ _ q => q⟩) (fun σ H Q Q' m ⟨Q0, q, m0⟩ => ⟨Q0, q, fun b H1 z => m b H1 (m0 b H1 z)⟩)

/-! #### comprehensions: the same; what they make as data -/
@[irreducible] def LcT (J : It) (g : TG) (tt : TT) (te : TE) (vs : List Nat) (σ : L2.St) (Q : VK) (H1 : Hp) : Prop := ∃ (n : Nat) (G : Hp → Prop) (Y : Nat → Hp → V → Hp → Prop), Walk J n G Y ∧ n ≤ 100000 ∧ ∀ D H2, H1 D = none → Fr [] H1 H2 → H2 D = some (.lst []) →
  ∃ Pv : Nat → List V → Hp → Prop, Pv 0 [] H2 ∧ (∀ i acc H, i ≤ n → Pv i acc H → acc.length ≤ i ∧ H D = some (.lst acc) ∧ G H) ∧
  (∀ i x acc H H', i < n → Pv i acc H → Y i H x H' → tMoG g x (wipe σ vs) H' fun σ2 H3 => wipe σ2 vs = wipe σ vs ∧ tMoT tt σ2 H3 fun b H4 => if b = true then tMo te σ2 H4 fun y H5 => H5 D = some (.lst acc) ∧ PutO D (.lst (acc ++ [y])) (Pv (i + 1) (acc ++ [y])) H5 else Pv (i + 1) acc H4) ∧
  ∀ acc H, Pv n acc H → Q (.ref D) H
theorem tMo_mono {te : TE} {σ : L2.St} {H : Hp} {Q Q' : VK} (m : ∀ y H', Q y H' → Q' y H') (h : tMo te σ H Q) : tMo te σ H Q' := by
  obtain ⟨Q0, q, m0⟩ := h
  exact ⟨Q0, q, fun y H' z => m y H' (m0 y H' z)⟩
theorem tMoT_mono {te : TT} {σ : L2.St} {H : Hp} {Q Q' : Bool → Hp → Prop} (m : ∀ y H', Q y H' → Q' y H') (h : tMoT te σ H Q) : tMoT te σ H Q' := by
  obtain ⟨Q0, q, m0⟩ := h
  exact ⟨Q0, q, fun y H' z => m y H' (m0 y H' z)⟩
theorem tMoG_mono {te : TG} {x : V} {σ : L2.St} {H : Hp} {Q Q' : L2.St → Hp → Prop} (m : ∀ y H', Q y H' → Q' y H') (h : tMoG te x σ H Q) : tMoG te x σ H Q' := by
  obtain ⟨Q0, q, m0⟩ := h
  exact ⟨Q0, q, fun y H' z => m y H' (m0 y H' z)⟩
def vLc (wi : TI) (g : TG) (tt : TT) (te : TE) (vs : List Nat) : TE := fun σ H Q => wi σ H fun J H1 => LcT J g tt te vs σ Q H1
section
variable {wi : TI} {g : TG} {tt : TT} {te : TE} {vs : List Nat}
theorem vLc_of {σ : L2.St} {H : Hp} {Q : VK} (h : vLc wi g tt te vs σ H Q) : uLc wi (tMoG g) (tMoT tt) (tMo te) vs σ H Q := by
  unfold vLc LcT at h
  exact h
variable {elt tg iter : Expr} {ifs : List Expr} {scope : Scope} {own : List (Str × Nat)}
theorem l_comp (hc : X.calm = true) (hN : X.N.Nodup) (hi : PI X tg iter wi) (ok : BlkOk X.N X.env.scope scope own)
    (hg : ∀ (s : Shared) (H : Hp) (C : Addr) (cl : List (Str × Addr)) (fp : List Addr), PG (X.blk s H scope (compEnvC scope cl C X.env) fp) tg g)
    (ht : ∀ (s : Shared) (H : Hp) (C : Addr) (cl : List (Str × Addr)) (fp : List Addr), PTs (X.blk s H scope (compEnvC scope cl C X.env) fp) ifs tt)
    (he : ∀ (s : Shared) (H : Hp) (C : Addr) (cl : List (Str × Addr)) (fp : List Addr), PE (X.blk s H scope (compEnvC scope cl C X.env) fp) elt te) (hs : ∀ x, foldedSetIterable iter X.env x = pure x := by intro _; rfl) :
    PE X (.ListComp elt [⟨tg, iter, ifs, 0⟩] scope pos) (vLc wi g tt te (own.map (·.2))) := imp_te (e_lc hc hN hi ok (fun s H C cl fp => g_mo (hg s H C cl fp)) (fun s H C cl fp => ts_mo (ht s H C cl fp)) (fun s H C cl fp => e_mo (he s H C cl fp)) hs) fun σ H Q q => vLc_of q
variable {y : Str} {py spos : Pos} {i : Nat}
theorem s_comp (hc : X.calm = true) (hN : X.N.Nodup) (hy : X.N[i]? = some y) (hyl : X.env.scope.names.lookup y = some .local) (hsw : swapsWith (.ListComp elt [⟨tg, iter, ifs, 0⟩] scope pos) (some (.Name y py)) spos.line X.env = pure true) (hi : PI X tg iter wi) (ok : BlkOk X.N X.env.scope scope own)
    (hg : ∀ (s : Shared) (H : Hp) (C : Addr) (cl : List (Str × Addr)) (fp : List Addr), PG (X.blk s H scope (compEnvC scope cl C X.env) fp) tg g)
    (ht : ∀ (s : Shared) (H : Hp) (C : Addr) (cl : List (Str × Addr)) (fp : List Addr), PTs (X.blk s H scope (compEnvC scope cl C X.env) fp) ifs tt)
    (he : ∀ (s : Shared) (H : Hp) (C : Addr) (cl : List (Str × Addr)) (fp : List Addr), PE (X.blk s H scope (compEnvC scope cl C X.env) fp) elt te) (hs : ∀ x, foldedSetIterable iter X.env x = pure x := by intro _; rfl) :
    PS X (.Assign [.Name y py] (.ListComp elt [⟨tg, iter, ifs, 0⟩] scope pos) spos) (tAsg (vLc wi g tt te (own.map (·.2))) (gName i)) := imp_ps (s_lc hc hN hy hyl hsw hi ok (fun s H C cl fp => g_mo (hg s H C cl fp)) (fun s H C cl fp => ts_mo (ht s H C cl fp)) (fun s H C cl fp => e_mo (he s H C cl fp)) hs) fun D σ H q => vLc_of q
/-- what is made is flat data, told of the items es -/
theorem lc_dp {α : Type} {K : PySem.W.Frag} {J : It} {n : Nat} {G : Hp → Prop} {Y : Nat → Hp → V → Hp → Prop} {σ : L2.St} {Q : VK} {H1 : Hp} (es : List α) (h : α → Option PyData) (w : Walk J n G Y) (hn : n = es.length) (hz : n ≤ 100000) (hf : ∀ e d, h e = some d → flat d = true)
    (hG : ∀ H D, H1 D = none → Fr [] H1 H → G H)
    (hs : ∀ i e x H H' (R : Option V → Hp → Prop), es[i]? = some e → Fr [] H1 H → Y i H x H' → (h e = none → ∀ H'', Fr [] H H'' → R none H'') → (∀ d, h e = some d → ∀ y H'', Fr [] H H'' → Dp K H'' y d → R (some y) H'') →
      g x (wipe σ vs) H' fun σ2 H2 => wipe σ2 vs = wipe σ vs ∧ tt σ2 H2 fun b H3 => if b = true then te σ2 H3 fun y H4 => R (some y) H4 else R none H3)
    (hd : ∀ D acc H', H1 D = none → Fr [] H1 H' → H' D = some (.lst acc) → DpAll K H' acc (es.filterMap h) → Q (.ref D) H') : LcT J g tt te vs σ Q H1 := by
  unfold LcT
  refine ⟨n, G, Y, w, hz, fun D H2 nD f2 h2 => ?_⟩
  refine ⟨fun i acc H => Fr [] H1 H ∧ H D = some (.lst acc) ∧ acc.length ≤ i ∧ DpAll K H acc ((es.take i).filterMap h), ⟨f2, h2, Nat.le_refl _, by simpa using DpAll.nil⟩, fun i acc H hi p => ⟨p.2.2.1, p.2.1, hG H D nD p.1⟩, fun i x acc H H' hi p y => ?_, fun acc H p => ?_⟩
  · obtain ⟨f, hD, hl, ha⟩ := p
    have hi' : i < es.length := by omega
    have he : es[i]? = some es[i] := List.getElem?_eq_getElem hi'
    have tk : (es.take (i + 1)).filterMap h = (es.take i).filterMap h ++ [es[i]].filterMap h := by
      rw [List.take_add_one, he, List.filterMap_append]
      rfl
    have fl : flatAll ((es.take i).filterMap h) = true := flatAll_mem fun d q => by
      obtain ⟨e, _, q⟩ := List.mem_filterMap.mp q
      exact hf e d q
    have hs' := (hs i es[i] x H H' (fun o H3 => match o with
      | none => h es[i] = none ∧ Fr [] H H3
      | some y => ∃ d, h es[i] = some d ∧ Fr [] H H3 ∧ Dp K H3 y d) he f y (fun e H'' f' => ⟨e, f'⟩) (fun d e y H'' f' hy => ⟨d, e, f', hy⟩))
    refine ⟨_, hs', fun σ2 H3 ⟨e1, q⟩ => ⟨e1, _, q, fun b H4 q => ?_⟩⟩
    cases b with
    | true =>
      rw [if_pos rfl] at q ⊢
      refine ⟨_, q, fun y H5 q => ?_⟩
      obtain ⟨d, e, f', hy⟩ := q
      refine ⟨f'.at0 hD, fun H6 f6 h6 => ⟨?_, h6, ?_, ?_⟩⟩
      · exact (f.trans f').trans' f6 nD
      · rw [List.length_append]
        simp
        omega
      · rw [tk]
        have e3 : [es[i]].filterMap h = [d] := by simp [e]
        rw [e3]
        refine DpAll.app (Dp.fr f6 d y (hf _ _ e) hy) (DpAll.fr f6 _ _ fl (DpAll.fr f' _ _ fl ha))
    | false =>
      rw [if_neg Bool.false_ne_true] at q ⊢
      obtain ⟨e, f'⟩ := q
      refine ⟨f.trans f', f'.at0 hD, by omega, ?_⟩
      rw [tk]
      have e3 : [es[i]].filterMap h = [] := by simp [e]
      rw [e3, List.append_nil]
      exact DpAll.fr f' _ _ fl ha
  · obtain ⟨f, hD, hl, ha⟩ := p
    rw [hn, List.take_length] at ha
    exact hd D acc H nD f hD ha
end

/-! #### tuples of texts that the top has written -/
def strsB : List Value → List Str → Bool
  | [], [] => true
  | .str z _ :: r, s :: t => decide (z = s) && strsB r t
  | _, _ => false
theorem strsB_ok : ∀ {us : List Value} {ss : List Str}, strsB us ss = true → Vals (ss.map V.str) us
  | [], [], _ => .nil
  | .str z t :: r, s :: ss, h => by
    have h' := Bool.and_eq_true_iff.mp h
    rw [of_decide_eq_true h'.1]
    exact .cons ⟨t, rfl⟩ (strsB_ok h'.2)
  | [], _ :: _, h => by cases h
  | .str _ _ :: _, [], h => by cases h
  | .none :: _, _, h | .bool _ :: _, _, h | .int _ _ :: _, _, h | .ref _ :: _, _, h | .type _ :: _, _, h | .builtin _ :: _, _, h | .float _ _ :: _, _, h | .bytes _ _ :: _, _, h => by cases h
def tupB (K : PySem.W.Frag) (a : Addr) (ss : List Str) : Bool := match K.lookup a with
  | some ⟨.type c, _, .seq its _, _⟩ => decide (c = "tuple") && (decide (its.size ≤ 1000) && strsB its.toList ss)
  | _ => false
theorem tupB_ok {K : PySem.W.Frag} {a : Addr} {ss : List Str} (h : tupB K a ss = true) (H : Hp) : SqT K H a (ss.map V.str) := by
  unfold tupB at h
  cases q : K.lookup a with
  | none =>
    rw [q] at h
    cases h
  | some o =>
    obtain ⟨oc, od, dt, osl⟩ := o
    rw [q] at h
    cases oc with
    | type c =>
      cases dt with
      | seq its n =>
        have h1 := Bool.and_eq_true_iff.mp h
        have h2 := Bool.and_eq_true_iff.mp h1.2
        refine .inr ⟨_, its, n, q, ?_, rfl, sz (by have := of_decide_eq_true h2.1; omega), strsB_ok h2.2⟩
        show Value.type c = _
        rw [of_decide_eq_true h1.1]
      | _ => cases h
    | _ => cases dt <;> cases h

/-! #### a text among texts, of a tuple, a list -/
def strsV : List V → Option (List Str)
  | [] => some []
  | .str z :: r => (strsV r).map (z :: ·)
  | _ => none
theorem strsV_eq : ∀ {xs : List V} {ss : List Str}, strsV xs = some ss → xs = ss.map V.str
  | [], ss, h => by
    cases h
    rfl
  | .str z :: r, ss, h => by
    unfold strsV at h
    cases e : strsV r with
    | none => rw [e] at h; cases h
    | some t =>
      rw [e] at h
      cases h
      rw [strsV_eq e]
      rfl
  | .non :: _, _, h | .bl _ :: _, _, h | .int _ :: _, _, h | .byt _ :: _, _, h | .flt _ :: _, _, h | .ref _ :: _, _, h | .ty _ :: _, _, h => by cases h
theorem strsV_map : ∀ ss : List Str, strsV (ss.map V.str) = some ss
  | [] => rfl
  | s :: ss => by
    show (strsV (ss.map V.str)).map (s :: ·) = _
    rw [strsV_map ss]
    rfl
theorem inV_strs (z : Str) : ∀ ss : List Str, inV (.str z) (ss.map V.str) = decide (z ∈ ss) := fun ss => by
  induction ss with
  | nil => simp [inV]
  | cons s ss ih =>
    simp only [inV, List.map_cons, List.any_cons] at ih ⊢
    rw [ih]
    have e : eqV (.str s) (.str z) = decide (s = z) := rfl
    rw [e]
    by_cases h : z = s
    · subst h
      simp
    · have h' : ¬ s = z := fun q => h q.symm
      simp [h, h']
theorem flat_strs : ∀ ss : List Str, (ss.map V.str).all flatV = true
  | [] => rfl
  | s :: ss => by
    simp only [List.map_cons, List.all_cons, flat_strs ss, Bool.and_true]
    rfl
def uInT (K : PySem.W.Frag) (neg : Bool) : R2 := fun x y H Q => ∃ z p xs ss, x = .str z ∧ y = .ref p ∧ SqT K H p xs ∧ strsV xs = some ss ∧ Q (.bl (if neg then !decide (z ∈ ss) else decide (z ∈ ss))) H
def uInL (K : PySem.W.Frag) (neg : Bool) : R2 := fun x y H Q => ∃ z p xs ss, x = .str z ∧ y = .ref p ∧ SqL K H p xs ∧ strsV xs = some ss ∧ Q (.bl (if neg then !decide (z ∈ ss) else decide (z ∈ ss))) H
theorem o_inT : OpR X (compareOp .In) (uInT X.K false) := op_imp op_in_seq fun x y H Q ⟨z, p, xs, ss, ex, ey, hp, hs, q⟩ => by
  obtain rfl := strsV_eq hs
  subst ex
  exact ⟨p, _, ey, .inr hp, rfl, flat_strs ss, by rw [inV_strs]; exact q⟩
theorem o_ninT : OpR X (compareOp .NotIn) (uInT X.K true) := op_imp op_notIn_seq fun x y H Q ⟨z, p, xs, ss, ex, ey, hp, hs, q⟩ => by
  obtain rfl := strsV_eq hs
  subst ex
  exact ⟨p, _, ey, .inr hp, rfl, flat_strs ss, by rw [inV_strs]; exact q⟩
theorem o_inL : OpR X (compareOp .In) (uInL X.K false) := op_imp op_in_seq fun x y H Q ⟨z, p, xs, ss, ex, ey, hp, hs, q⟩ => by
  obtain rfl := strsV_eq hs
  subst ex
  exact ⟨p, _, ey, .inl hp, rfl, flat_strs ss, by rw [inV_strs]; exact q⟩
theorem o_ninL : OpR X (compareOp .NotIn) (uInL X.K true) := op_imp op_notIn_seq fun x y H Q ⟨z, p, xs, ss, ex, ey, hp, hs, q⟩ => by
  obtain rfl := strsV_eq hs
  subst ex
  exact ⟨p, _, ey, .inl hp, rfl, flat_strs ss, by rw [inV_strs]; exact q⟩

/-! #### isinstance of data -/
def kindOf : PyData → String
  | .none => "NoneType"
  | .bool _ => "bool"
  | .int _ => "int"
  | .str _ => "str"
  | .list _ => "list"
  | .tuple _ => "tuple"
  | .dict _ => "dict"
theorem kd_of {K : PySem.W.Frag} {H : Hp} {x : V} {d : PyData} (h : Dp K H x d) : Kd K H x (kindOf d) ∧ kindOf d ∈ kinds := by
  cases h with
  | non => exact ⟨kd_non, by simp [kinds, kindOf]⟩
  | bl b => exact ⟨kd_bl, by simp [kinds, kindOf]⟩
  | int i => exact ⟨kd_int, by simp [kinds, kindOf]⟩
  | str z => exact ⟨kd_str, by simp [kinds, kindOf]⟩
  | tup h1 _ => exact ⟨kd_tup h1, by simp [kinds, kindOf]⟩
  | lst h1 _ =>
    refine ⟨?_, by simp [kinds, kindOf]⟩
    rcases h1 with (h | ⟨o, h⟩) | ⟨o, its, n, h, c, _⟩
    · exact .base (.lst h)
    · exact .base (.frz h)
    · exact .kList h c
def isK (d : PyData) (m : String) : Bool := isB (kindOf d) m
def okKind (m : String) : Bool := kinds.contains m && m != "NoneType"
def uIsiD (K : PySem.W.Frag) : List V → Hp → VK → Prop := fun xs H Q => ∃ x d m, xs = [x, .ty m] ∧ Dp K H x d ∧ okKind m = true ∧ Q (.bl (isK d m)) H
theorem c_isiD : CallR X (.builtin "isinstance") (uIsiD X.K) := call_imp c_isi fun xs H Q ⟨x, d, m, e, h, hm, q⟩ => by
  have hm' := Bool.and_eq_true_iff.mp hm
  exact ⟨x, m, kindOf d, e, (kd_of h).1, (kd_of h).2, ⟨by simpa using hm'.1, by simpa using hm'.2⟩, q⟩
def uIsiD2 (K : PySem.W.Frag) : List V → Hp → VK → Prop := fun xs H Q => ∃ x d tp m1 m2, xs = [x, .ref tp] ∧ H tp = some (.tup [.ty m1, .ty m2]) ∧ Dp K H x d ∧ okKind m1 = true ∧ okKind m2 = true ∧ Q (.bl (isK d m1 || isK d m2)) H
theorem c_isiD2 : CallR X (.builtin "isinstance") (uIsiD2 X.K) := call_imp c_isi2 fun xs H Q ⟨x, d, tp, m1, m2, e, hp, h, h1, h2, q⟩ => by
  have h1' := Bool.and_eq_true_iff.mp h1
  have h2' := Bool.and_eq_true_iff.mp h2
  exact ⟨x, tp, m1, m2, kindOf d, e, hp, (kd_of h).1, (kd_of h).2, ⟨by simpa using h1'.1, by simpa using h1'.2⟩, ⟨by simpa using h2'.1, by simpa using h2'.2⟩, q⟩

/-! #### the same rules, the written part told by its own letter (in a comprehension) -/
section
variable {K : PySem.W.Frag}
theorem opK {f : Value → Value → Sem Value} (r : PySem.W.Frag → R2) (h : OpR X f (r X.K)) (hK : X.K = K := by rfl) : OpR X f (r K) := hK ▸ h
theorem ixK (r : PySem.W.Frag → R2) (h : IxR X (r X.K)) (hK : X.K = K := by rfl) : IxR X (r K) := hK ▸ h
theorem slK (r : PySem.W.Frag → V → Option Int → Option Int → Hp → VK → Prop) (h : SlR X (r X.K)) (hK : X.K = K := by rfl) : SlR X (r K) := hK ▸ h
theorem callK {f : Value} (r : PySem.W.Frag → List V → Hp → VK → Prop) (h : CallR X f (r X.K)) (hK : X.K = K := by rfl) : CallR X f (r K) := hK ▸ h
theorem mtK {id : String} (r : PySem.W.Frag → V → List V → Hp → VK → Prop) (h : MtR X id (r X.K)) (hK : X.K = K := by rfl) : MtR X id (r K) := hK ▸ h
theorem piK {tg e : Expr} (r : PySem.W.Frag → TI) (h : PI X tg e (r X.K)) (hK : X.K = K := by rfl) : PI X tg e (r K) := hK ▸ h
theorem pgK {e : Expr} (r : PySem.W.Frag → TG) (h : PG X e (r X.K)) (hK : X.K = K := by rfl) : PG X e (r K) := hK ▸ h
theorem peK {e : Expr} (r : PySem.W.Frag → TE) (h : PE X e (r X.K)) (hK : X.K = K := by rfl) : PE X e (r K) := hK ▸ h
end

/-! #### "".join of single signs -/
theorem join_fold (cs : List Nat) : ∀ acc : Array Nat, (cs.map fun c => (⟨#[c]⟩ : Str)).foldl (fun acc p => acc ++ (Str.ofString "").cps ++ p.cps) acc = acc ++ cs.toArray := by
  induction cs with
  | nil => intro acc; simp
  | cons c cs ih =>
    intro acc
    rw [List.map_cons, List.foldl_cons, ih]
    have : (Str.ofString "").cps = #[] := rfl
    rw [this]
    simp
theorem join_chs : ∀ cs : List Nat, Txt.join (Str.ofString "") (cs.map fun c => (⟨#[c]⟩ : Str)) = ⟨cs.toArray⟩
  | [] => rfl
  | c :: cs => by
    show (⟨_⟩ : Str) = _
    have := join_fold cs #[c]
    rw [show (List.drop 1 (List.map (fun c => (⟨#[c]⟩ : Str)) (c :: cs))) = cs.map (fun c => (⟨#[c]⟩ : Str)) from rfl]
    rw [show (List.map (fun c => (⟨#[c]⟩ : Str)) (c :: cs)).headD Str.empty = ⟨#[c]⟩ from rfl, this]
    simp
theorem sum_chs : ∀ cs : List Nat, ((cs.map fun c => (⟨#[c]⟩ : Str)).map fun x => x.length).sum = cs.length
  | [] => rfl
  | c :: cs => by
    rw [List.map_cons, List.map_cons, List.sum_cons, sum_chs cs, List.length_cons]
    show 1 + _ = _
    omega

/-! #### words for the tactics -/
/-- what the tactics don't look into -/
@[irreducible] def Hid (p : Prop) : Prop := p
theorem hid {p : Prop} (h : p) : Hid p := by
  unfold Hid
  exact h
theorem Hid.out {p : Prop} (h : Hid p) : p := by
  unfold Hid at h
  exact h
section
theorem sqt_id {K : PySem.W.Frag} {H : Hp} {a : Addr} {xs : List V} (h : SqT K H a xs) : SqT K H a xs := h
theorem dp_id {K : PySem.W.Frag} {H : Hp} {v : V} {d : PyData} (h : Dp K H v d) : Dp K H v d := h
theorem dp_fr {K : PySem.W.Frag} {S : List Addr} {H H' : Hp} {v : V} {d : PyData} (f : Fr S H H') (h : Dp K H v d) (e : flat d = true) : Dp K H' v d := Dp.fr f d v e h
theorem dp_fr0 {K : PySem.W.Frag} {H H' : Hp} {v : V} {d : PyData} (f : Fr [] H H') (h : Dp K H v d) : Dp K H' v d := Dp.fr0 f d v h
theorem dpall_fr0 {K : PySem.W.Frag} {H H' : Hp} {v : List V} {d : List PyData} (f : Fr [] H H') (h : DpAll K H v d) : DpAll K H' v d := DpAll.fr0 f d v h
theorem dpall_id {K : PySem.W.Frag} {H : Hp} {v : List V} {d : List PyData} (h : DpAll K H v d) : DpAll K H v d := h
theorem dpall_fr {K : PySem.W.Frag} {S : List Addr} {H H' : Hp} {v : List V} {d : List PyData} (f : Fr S H H') (h : DpAll K H v d) (e : flatAll d = true) : DpAll K H' v d := DpAll.fr f d v e h
theorem ite_t {c A B : Prop} [Decidable c] (h : c) (a : A) : if c then A else B := by
  rw [if_pos h]
  exact a
theorem ite_f {c A B : Prop} [Decidable c] (h : ¬ c) (b : B) : if c then A else B := by
  rw [if_neg h]
  exact b
theorem ite_ff {b : Bool} {A B : Prop} [Decidable (b = true)] (h : b = false) (q : B) : if b = true then A else B := by
  rw [if_neg (by rw [h]; exact Bool.false_ne_true)]
  exact q
theorem sql_id {K : PySem.W.Frag} {H : Hp} {a : Addr} {xs : List V} (h : SqL K H a xs) : SqL K H a xs := h
theorem nin_nil {a : Addr} : a ∉ ([] : List Addr) := fun h => by cases h
theorem nin_cons {a b : Addr} {S : List Addr} (h : a ≠ b) (t : a ∉ S) : a ∉ b :: S := fun z => by
  cases z with
  | head => exact h rfl
  | tail _ z => exact t z
variable {S S1 : List Addr} {H H1 H2 : Hp} {a : Addr}
theorem Fr.back (h2 : Fr S1 H1 H2) (hs : ∀ b, b ∈ S1 → b ∈ S) (h1 : Fr S H H1) : Fr S H H2 := h1.trans (h2.mono hs)
theorem sub_nil : ∀ b, b ∈ ([] : List Addr) → b ∈ S := fun _ h => by cases h
theorem sub_cons (h : a ∈ S) (t : ∀ b, b ∈ S1 → b ∈ S) : ∀ b, b ∈ a :: S1 → b ∈ S := fun b z => by
  cases z with
  | head => exact h
  | tail _ z => exact t b z
/-- two objects of unlike content are two -/
theorem ne_at {H : Hp} {a b : Addr} {o u : HO} (h1 : H a = some o) (h2 : H b = some u) (ne : o ≠ u) : a ≠ b := fun z => by
  subst z
  rw [h1] at h2
  cases h2
  exact ne rfl
/-- a new place is no old one -/
theorem ne_new {H : Hp} {a p : Addr} {o : HO} (h1 : H a = some o) (h2 : H p = none) : a ≠ p := fun z => by
  subst z
  rw [h1] at h2
  cases h2
end
end KR

/-! KR2: own rules: a tuple turned about, a tuple times a number. -/
namespace KR
open PySem PySem.Spec PyProof.Rows L2
open PySem.SeqAt
open PySem.AutoSeq1 (wpAny_loadPart')
open PySem.MeetsSeq PySem.MeetsSeq2 PySem.MeetsSeq3
section
variable {prog : Program} {w : World} {A : Around} {E : Value → Shared → Prop} {s : Shared}
theorem applied_rev {sl : Addr} {vl vu vs : Value} {n : Nat} {Q : Int × Int × Nat → Shared → Prop} (hs : s.heap.IsSliceOf sl vl vu vs) (pl : IsPart vl none) (pu : IsPart vu none) (ps : IsPart vs (some (-1)))
    (h : Q ((n : Int) - 1, -1, n) s) : wpAny (model prog w) A (Builtin.Slice.sliceApplied (.ref sl) (pure (n : Int))) Q E s := by
  obtain ⟨os, hos, hcs, hds⟩ := id hs
  unfold Builtin.Slice.sliceApplied Builtin.Slice.sliceFields
  refine wpAny_bind (wpAny_bind (wpAny_field hos hds (x := vl) rfl (wpAny_bind (wpAny_field hos hds (x := vu) rfl (wpAny_bind (wpAny_field hos hds (x := vs) rfl (wpAny_pure ?_)))))))
  refine wpAny_bind (HT.slicePart_ ps ?_)
  show wpAny _ _ (if ((-1 : Int) == 0) = true then _ else _) _ _ s
  rw [if_neg (by decide)]
  refine wpAny_bind (HT.slicePart_ pl (wpAny_bind (HT.slicePart_ pu (wpAny_bind (wpAny_pure ?_)))))
  have e : Builtin.Slice.slicePlaces ((n : Int) - 1) (-1) (-1) = n := by
    unfold Builtin.Slice.slicePlaces
    rw [if_neg (by omega)]
    by_cases hn : 0 < n
    · rw [if_pos (by omega)]
      have : ((n : Int) - 1 - -1 - 1) / (- -1) + 1 = n := by
        rw [show (- -1 : Int) = 1 by rfl, Int.ediv_one]
        omega
      rw [this]
      omega
    · rw [if_neg (by omega)]
      omega
  show wpAny _ _ (pure ((n : Int) - 1, (-1 : Int), Builtin.Slice.slicePlaces ((n : Int) - 1) (-1) (-1))) _ _ s
  rw [e]
  exact wpAny_pure h
theorem fm_map {α β : Type} {f : α → Option β} {g : α → β} : ∀ {l : List α}, (∀ m ∈ l, f m = some (g m)) → l.filterMap f = l.map g
  | [], _ => rfl
  | x :: l, h => by
    rw [List.filterMap_cons, h x (by simp), List.map_cons, fm_map fun m hm => h m (by simp [hm])]
theorem pick_rev (xs : Array Value) : ((List.range xs.size).filterMap fun (m : Nat) => xs[(((xs.size : Nat) : Int) - 1 + (m : Int) * -1).toNat]?) = xs.toList.reverse := by
  apply List.ext_getElem?
  intro i
  have hall : ∀ m ∈ List.range xs.size, (fun (m : Nat) => xs[(((xs.size : Nat) : Int) - 1 + (m : Int) * -1).toNat]?) m = some (xs.toList.reverse[m]?.getD .none) := fun m hm => by
    have hm' := List.mem_range.mp hm
    have e : (((xs.size : Nat) : Int) - 1 + (m : Int) * -1).toNat = xs.size - 1 - m := by omega
    show xs[_]? = _
    rw [e, List.getElem?_reverse (by simpa using hm')]
    have h2 : xs.size - 1 - m < xs.size := by omega
    simp [h2, Array.getElem?_eq_getElem h2]
  have e2 : (List.range xs.size).filterMap (fun (m : Nat) => xs[(((xs.size : Nat) : Int) - 1 + (m : Int) * -1).toNat]?) = (List.range xs.size).map fun m => xs.toList.reverse[m]?.getD .none := by
    exact fm_map hall
  rw [e2]
  by_cases hi : i < xs.size
  · have h1 : i < xs.toList.reverse.length := by simpa using hi
    rw [List.getElem?_map, List.getElem?_range hi, Option.map_some, List.getElem?_eq_getElem h1]
    rfl
  · rw [List.getElem?_eq_none (by simpa using hi), List.getElem?_eq_none (by simpa using hi)]
theorem getItem_tuple_rev {t sl : Addr} {items : Array Value} {vl vu vs : Value} {Q : Value → Shared → Prop} (ht : IsTup s.heap t items) (hs : s.heap.IsSliceOf sl vl vu vs) (pl : IsPart vl none) (pu : IsPart vu none) (ps : IsPart vs (some (-1)))
    (h : Q (.ref s.heap.objs.size) { s with heap := s.heap.push { cls := .type "tuple", data := .seq items.toList.reverse.toArray } }) (hsz : items.size ≤ sizeLine) : wpAny (model prog w) A (getItem (.ref t) (.ref sl)) Q E s := by
  have htake : sizeOk (.seq items.toList.reverse.toArray) := by
    show items.toList.reverse.toArray.size ≤ sizeLine
    rw [List.size_toArray, List.length_reverse, Array.length_toList]
    exact hsz
  obtain ⟨os, hos, hcs, hds⟩ := id hs
  have hTs : s.TypeIs (.ref sl) "slice" := ⟨os, hos, hcs⟩
  unfold getItem
  try with_reducible refine wpAny_holding ?_
  first | refine wpAny_bind (wpAny_pure ?_) | skip
  refine wpAny_bind (wpAny_sequenceKey ht.typeIs (by decide) ?_)
  refine wpAny_bind (wpAny_callSpecial?_slot (name := Str.ofString "__getitem__") ht.typeIs PyProof.Rows.slot_tuple_getitem
    (wpAny_call_entry PyProof.Rows.slot_tuple_getitem ht.typeIs entry_tuple_getitem ?_ (args_tuple_getitem _ _)))
  show wpAny _ _ (Builtin.Tuple.tupleItemsOf (.ref t) >>= _) _ _ s
  refine wpAny_bind (tupleItemsOf_ ht ?_)
  refine wpAny_bind (wpAny_typeOf hTs ?_)
  rw [if_pos (by decide)]
  refine wpAny_bind (applied_rev hs pl pu ps ?_)
  have hno : ¬ (((((items.size : Nat) : Int) - 1) == 0 && (-1 : Int) == 1 && items.size == items.size) = true) := by
    intro q
    rw [Bool.and_eq_true, Bool.and_eq_true] at q
    exact absurd q.1.2 (by decide)
  show wpAny _ _ (if (((((items.size : Nat) : Int) - 1) == 0 && (-1 : Int) == 1 && items.size == items.size) = true) then _ else _) _ _ s
  rw [if_neg hno, pick_rev]
  first
    | exact wpAny_bind (m := Builtin.Tuple.tupleExact _) (wpAny_newObj_type (wpAny_pure ⟨_, rfl, wpAny_pure h⟩) htake)
    | exact wpAny_bind (m := Builtin.Tuple.tupleExact _) (wpAny_newObj_type (wpAny_bind (wpAny_pure (wpAny_pure ⟨_, rfl, wpAny_pure h⟩))) htake)
    | exact wpAny_bind (wpAny_bind (m := Builtin.Tuple.tupleExact _) (wpAny_newObj_type (wpAny_pure (wpAny_pure ⟨_, rfl, wpAny_pure h⟩)) htake))
    | exact wpAny_bind (wpAny_bind (m := Builtin.Tuple.tupleExact _) (wpAny_newObj_type (wpAny_pure ⟨_, rfl, wpAny_pure h⟩) htake))
end
/-! tuple * n: 1, or of an empty one: itself; 0: an empty one -/
theorem tuple_mul_same (l : Addr) (items : Array Value) (n : Nat) (dd : Option Addr) (sl : Array (Option Value)) (x : Int) (u : Tok) (c0 : (decide (x < -(2 ^ 63)) || decide (x ≥ 2 ^ 63)) = false) (c1 : (items.isEmpty || x == 1) = true) :
    Meets (Builtin.«tuple.__mul__» ⟨[.ref l, .int x u], []⟩) (fun _ R s => s.heap.get? l = some { cls := .type "tuple", dict := dd, data := .seq items n, slots := sl } ∧ R (.ok (.ret (Value.ref l))) s) :=
  .of_wp fun prog w A R s h => by
    obtain ⟨hp, g, d, tk, os⟩ := s
    obtain ⟨hl, h⟩ := h
    have f1 := AutoSeq1.idx_int
    wp_walk using wpAny_loadPart' hl
    repeat (first
      | (refine wpAny_ite_false (decide_eq_false (by rw [c0]; exact Bool.false_ne_true)) ?_; wp_walk using wpAny_loadPart' hl)
      | (refine wpAny_ite_true (decide_eq_true c1) ?_; wp_walk using wpAny_loadPart' hl))
    exact ⟨_, rfl, h⟩
theorem tuple_mul_none (l : Addr) (items : Array Value) (n : Nat) (dd : Option Addr) (sl : Array (Option Value)) (x : Int) (u : Tok) (c0 : (decide (x < -(2 ^ 63)) || decide (x ≥ 2 ^ 63)) = false) (c1 : (items.isEmpty || x == 1) = false) (c2 : (decide (x ≤ 0) || items.isEmpty) = true) :
    Meets (Builtin.«tuple.__mul__» ⟨[.ref l, .int x u], []⟩) (fun _ R s => s.heap.get? l = some { cls := .type "tuple", dict := dd, data := .seq items n, slots := sl } ∧
      R (.ok (.ret (Value.ref s.heap.objs.size))) { s with heap := s.heap.push { cls := Value.type "tuple", data := Data.seq #[] }, toks := s.toks }) :=
  .of_wp fun prog w A R s h => by
    obtain ⟨hp, g, d, tk, os⟩ := s
    obtain ⟨hl, h⟩ := h
    have f1 := AutoSeq1.idx_int
    wp_walk using wpAny_loadPart' hl
    repeat (first
      | (refine wpAny_ite_false (decide_eq_false (by rw [c0]; exact Bool.false_ne_true)) ?_; wp_walk using wpAny_loadPart' hl)
      | (refine wpAny_ite_false (decide_eq_false (by rw [c1]; exact Bool.false_ne_true)) ?_; wp_walk using wpAny_loadPart' hl)
      | (refine wpAny_ite_true (decide_eq_true c2) ?_; wp_walk using wpAny_loadPart' hl)
      | (refine wpAny_ite_false (decide_eq_false (Nat.not_lt.mpr (Nat.zero_le _))) ?_; wp_walk using wpAny_loadPart' hl))
    exact ⟨_, rfl, h⟩
def uRepT (K : PySem.W.Frag) : R2 := fun x y H Q => ∃ l k xs, x = .ref l ∧ y = .int k ∧ SqT K H l xs ∧ (0 ≤ k ∧ k ≤ 1000) ∧ xs.length ≤ 1000 ∧ NewT K (List.replicate k.toNat xs).flatten Q H
section
variable {X : Cx}
theorem o_repT : OpR X (binaryOp .Mult) (uRepT X.K) := by
  intro pins s σ H x y v u Q I rx ry h
  obtain ⟨l, k, xs, e1, e2, hT, ⟨h1, h2⟩, hz, q⟩ := h
  by_cases hbig : xs ≠ [] ∧ 2 ≤ k
  · exact op_repT pins s σ H x y v u Q I rx ry ⟨l, k, xs, e1, e2, hT, hbig.1, hbig.2, h2, hz, q.go⟩
  subst e1 e2
  cases rx
  obtain ⟨t, rfl⟩ := ry
  obtain ⟨its, r, ⟨⟨cls, dd, data, sl⟩, ho, hc, n, hd⟩, hs⟩ := I.tuple hT
  simp only at hc hd
  subst hc hd
  have hle : its.length = xs.length := r.length.symm
  have c0 : (decide (k < -(2 ^ 63)) || decide (k ≥ 2 ^ 63)) = false := by
    rw [decide_eq_false (by omega), decide_eq_false (by omega)] <;> rfl
  have hemp : its.toArray.isEmpty = xs.isEmpty := by
    cases xs <;> cases its <;> simp_all
  by_cases hsame : xs = [] ∨ k = 1
  · have c1 : (its.toArray.isEmpty || k == 1) = true := by
      rw [hemp]
      rcases hsame with rfl | rfl
      · rfl
      · rw [beq_self_eq_true, Bool.or_true]
    have e : (List.replicate k.toNat xs).flatten = xs := by
      rcases hsame with rfl | rfl
      · simp
      · simp
    rw [e] at q
    refine wpAny_binaryOp_repeat_ref (T := "tuple") (U := "int") (by decide) ⟨_, ho, rfl⟩ (fun s' => typeIs_int s' k t) noFill_tuple_mul F.fills_int_mul F.slot_int_rmul repeat_tuple F.slot_int_index.lookup
      (call_meets F.slot_int_rmul (typeIs_int s k t) F.entry_int_rmul (F.args_int_rmul_2 _ _) (int_rmul_tuple k t l its.toArray n dd sl)
        ⟨ho, rfl, ⟨_, ho, rfl⟩, call_meets F.slot_tuple_mul ⟨_, ho, rfl⟩ F.entry_tuple_mul (F.args_tuple_mul_2 _ _) (tuple_mul_same l its.toArray n dd sl k t c0 c1) ⟨ho, ?_⟩⟩)
    exact ⟨.ref l, H, I, rfl, q.it hT⟩
  · have hx : xs ≠ [] := fun z => hsame (.inl z)
    have hk : k = 0 := by
      have : ¬ 2 ≤ k := fun z => hbig ⟨hx, z⟩
      have : k ≠ 1 := fun z => hsame (.inr z)
      omega
    subst hk
    have hx' : xs.isEmpty = false := by
      cases xs with
      | nil => exact absurd rfl hx
      | cons _ _ => rfl
    have c1 : (its.toArray.isEmpty || (0 : Int) == 1) = false := by
      rw [hemp, hx']
      rfl
    have c2 : (decide ((0 : Int) ≤ 0) || its.toArray.isEmpty) = true := rfl
    refine wpAny_binaryOp_repeat_ref (T := "tuple") (U := "int") (by decide) ⟨_, ho, rfl⟩ (fun s' => typeIs_int s' 0 t) noFill_tuple_mul F.fills_int_mul F.slot_int_rmul repeat_tuple F.slot_int_index.lookup
      (call_meets F.slot_int_rmul (typeIs_int s 0 t) F.entry_int_rmul (F.args_int_rmul_2 _ _) (int_rmul_tuple 0 t l its.toArray n dd sl)
        ⟨ho, rfl, ⟨_, ho, rfl⟩, call_meets F.slot_tuple_mul ⟨_, ho, rfl⟩ F.entry_tuple_mul (F.args_tuple_mul_2 _ _) (tuple_mul_none l its.toArray n dd sl 0 t c0 c1 c2) ⟨ho, ?_⟩⟩)
    refine ⟨.ref s.heap.objs.size, _, I.laid (t' := s.toks) (o := .tup []) (fun b ob q => Heap.get?_push_of_some _ q) (Nat.le_refl _) ?_, rfl, q.go _ (I.hok.fresh (Nat.le_refl _))⟩
    exact ⟨Nat.zero_le _, [], .nil, IsTup.new _ _⟩
end
section
variable {X : Cx}
def uRevT (K : PySem.W.Frag) (te : TE) : TE := fun σ H Q => te σ H fun x H1 => ∃ a xs, x = .ref a ∧ SqT K H1 a xs ∧ NewT K xs.reverse Q H1
theorem pe_revT {e : Expr} {te : TE} {k : Nat} {p1 p2 p3 pos : Pos} (he : PE X e te) : PE X (.Subscript e (.Slice none none (some (.UnaryOp .USub (.Constant (.int 1) k p1) p2)) p3) pos) (uRevT X.K te) := by
  refine ⟨fun pins s σ H Q I h => ?_⟩
  refine Subscript_ (thn (he.run pins s σ H _ I h) fun v s1 ⟨x, H1, I1, r1, q1⟩ => ?_)
  obtain ⟨a, xs, ex, hx, q⟩ := q1
  subst ex
  cases r1
  have hst : PO X (some (.UnaryOp .USub (.Constant (.int 1) k p1) p2)) (tPart (tUn (rU fun i => .int (-i)) (tC (.int 1)))) := po_some (pe_un un_neg pe_int)
  refine wpAny_Slice (thn (po_none.run pins s1 σ H1 (fun o H2 => o = none ∧ H2 = H1) I1 ⟨rfl, rfl⟩) fun vl s2 ⟨l, H2, I2, pl, el, e2⟩ => ?_)
  subst el e2
  refine thn (po_none.run pins s2 σ H2 (fun o H3 => o = none ∧ H3 = H2) I2 ⟨rfl, rfl⟩) fun vu s3 ⟨u, H3, I3, pu, eu, e3⟩ => ?_
  subst eu e3
  refine thn (hst.run pins s3 σ H3 (fun o H4 => o = some (-1) ∧ H4 = H3) I3 ⟨1, rfl, -1, rfl, rfl, rfl⟩) fun vs s4 ⟨o, H4, I4, ps, eo, e4⟩ => ?_
  subst eo e4
  have I5 : Inv X pins σ H4 { s4 with heap := s4.heap.push { cls := .type "slice", data := .fields #[vl, vu, vs] } } := I4.kept (t' := s4.toks) fun b ob q => Heap.get?_push_of_some _ q
  obtain ⟨its, r, ht, hz⟩ := I5.tuple hx
  have hlen := r.length
  show wpAny (model X.prog X.w) X.A (subscriptTail e (.Slice none none (some (.UnaryOp .USub (.Constant (.int 1) k p1) p2)) p3) (.ref a) (.ref s4.heap.objs.size)) (EP X pins σ Q) X.xe { s4 with heap := s4.heap.push { cls := .type "slice", data := .fields #[vl, vu, vs] } }
  refine tail_any (ops := [.ref a, .ref s4.heap.objs.size]) ht.typeIs (PyProof.Rows.slot_tuple_getitem.lookup) ?_ (by with_unfolding_all rfl)
  refine getItem_tuple_rev ht (Heap.IsSliceOf.new _ vl vu vs) pl pu ps ?_ (by rw [List.size_toArray]; omega)
  refine ⟨.ref _, _, I5.laid (t' := s4.toks) (o := .tup xs.reverse) (fun b ob q => Heap.get?_push_of_some _ q) (Nat.le_refl _) ?_, rfl, q.go _ (I5.hok.fresh (Nat.le_refl _))⟩
  exact ⟨by rw [List.length_reverse]; exact hz, _, r.reverse, IsTup.new _ _⟩
end
/-- an if without an else: what stands behind it is told once -/
theorem if_then {c A : Prop} [Decidable c] {N : L2.St → Hp → Prop} {σ0 : L2.St} {H0 : Hp} (P : L2.St → Hp → Prop) (hN : ∀ σ H, P σ H → N σ H) (ha : c → (∀ σ H, P σ H → N σ H) → A) (hb : ¬ c → P σ0 H0) : if c then A else N σ0 H0 := by
  by_cases h : c
  · rw [if_pos h]
    exact ha h hN
  · rw [if_neg h]
    exact hN _ _ (hb h)
/-- both ways make a new tuple -/
theorem if_both {b : Bool} {A B : Prop} {Q : VK} {H : Hp} {K : PySem.W.Frag} {w1 w2 : List V} (h : ∀ p H1, Fr [] H H1 → (SqT K H1 p w1 ∨ SqT K H1 p w2) → Q (.ref p) H1) (ha : NewT K w1 Q H → A) (hb : NewT K w2 Q H → B) : if b = true then A else B := by
  cases b with
  | true => exact ite_t rfl (ha fun p H1 f e => h p H1 f (.inl e))
  | false => exact ite_ff rfl (hb fun p H1 f e => h p H1 f (.inr e))
theorem flat_ints : ∀ ns : List Int, (ns.map V.int).all flatV = true
  | [] => rfl
  | n :: ns => by
    simp only [List.map_cons, List.all_cons, flat_ints ns, Bool.and_true]
    rfl
theorem inV_ints (z : Int) : ∀ ss : List Int, inV (.int z) (ss.map V.int) = decide (z ∈ ss) := fun ss => by
  induction ss with
  | nil => simp [inV]
  | cons s ss ih =>
    simp only [inV, List.map_cons, List.any_cons] at ih ⊢
    rw [ih]
    have e : eqV (.int s) (.int z) = decide (s = z) := rfl
    rw [e]
    by_cases h : z = s
    · subst h
      simp
    · have h' : ¬ s = z := fun q => h q.symm
      simp [h, h']
theorem DpAll.rev {K : PySem.W.Frag} {H : Hp} : ∀ {vs : List V} {ds : List PyData}, DpAll K H vs ds → DpAll K H vs.reverse ds.reverse
  | _, _, .nil => .nil
  | _, _, .cons h h' => by
    rw [List.reverse_cons, List.reverse_cons]
    exact DpAll.append (DpAll.rev h') (.cons h .nil)
end KR

/-! FE: what a def computes, as a plain function over values and boxes. -/
namespace FE
open PySem PySem.Spec PyProof.Rows L2 KR

/-- a value: data; a box; a slot's own list; the script; a tuple, a frozen list of such -/
inductive W where
  | d (x : PyData) | ref (n : Nat) | own (i : Nat) | scr (ns : List Int) | adr (a : Addr) | tw (ws : List W) | lw (ws : List W)
/-- what stands in a box -/
inductive B where
  | lst (ws : List W) | dct (kvs : List (Str × W)) | ins (c : Str) (fs : List (Str × W)) | tbl (p q : Str)
/-- a slot -/
inductive Sl where
  | no | v (w : W) | own (ws : List W)
abbrev M := List B
structure S where
  sl : List Sl
  m : M
/-- a refusal: its class, its field -/
structure Er where
  c : Str
  f : Option (Str × W)
inductive R (σ α : Type) where
  | no | ok (a : α) (s : σ) | er (e : Er) (m : M)
def R.bind {σ α β : Type} (r : R σ α) (k : α → σ → R σ β) : R σ β := match r with
  | .no => .no
  | .ok a s => k a s
  | .er e m => .er e m
abbrev EF := S → R S W
abbrev LF := S → R S (List W)
abbrev FF := List W → M → R M W
/-- a statement's end -/
inductive O where
  | no | nx (s : S) | bk (s : S) | ct (s : S) | rt (w : W) (s : S) | er (e : Er) (m : M)
abbrev SF := S → O

/-! ### all but the tables of lambdas -/
def vis (H : Hp) : Hp := fun b => match H b with
  | some (.tbl _) => none
  | o => o
theorem vis_of {H : Hp} {b : Addr} {o : HO} (h : H b = some o) (n : ∀ ps, o ≠ .tbl ps := by intro ps h; cases h) : vis H b = some o := by
  unfold vis
  rw [h]
  cases o with
  | tbl ps => exact absurd rfl (n ps)
  | _ => rfl
theorem of_vis {H : Hp} {b : Addr} {o : HO} (h : vis H b = some o) : H b = some o ∧ ∀ ps, o ≠ .tbl ps := by
  unfold vis at h
  cases e : H b with
  | none =>
    rw [e] at h
    cases h
  | some u =>
    rw [e] at h
    cases u with
    | tbl ps => cases h
    | _ => cases h; exact ⟨rfl, fun _ z => by cases z⟩
theorem vis_none {H : Hp} {b : Addr} (h : H b = none) : vis H b = none := by
  unfold vis
  rw [h]
theorem _root_.KR.Fr.vis {S : List Addr} {H H' : Hp} (f : Fr S H H') : Fr S (vis H) (vis H') :=
  ⟨fun b o h n => vis_of (f.all b o (of_vis h).1 n) (of_vis h).2, fun {b xs} h => vis_of (f.tup (of_vis h).1), fun {b o u} h => vis_of (f.frz (of_vis h).1), fun {b φ} h => vis_of (f.ext (of_vis h).1)⟩
theorem _root_.KR.Fr.atL {S : List Addr} {H H' : Hp} {b : Addr} {o : HO} (f : Fr S (FE.vis H) (FE.vis H')) (h : H b = some o) (m : b ∉ S) (n : ∀ ps, o ≠ .tbl ps := by intro ps h; cases h) : H' b = some o := (of_vis (f.all b o (vis_of h n) m)).1
theorem _root_.KR.Fr.sqtV {S : List Addr} {H H' : Hp} {K : PySem.W.Frag} {a : Addr} {xs : List V} (h : Fr S (FE.vis H) (FE.vis H')) (e : SqT K H a xs) : SqT K H' a xs := by
  rcases e with (e | ⟨o, e⟩) | e
  · exact .inl (.inl (of_vis (h.tup (vis_of e))).1)
  · exact .inl (.inr ⟨o, (of_vis (h.frz (vis_of e))).1⟩)
  · exact .inr e
/-! ### how a value stands in the heap -/
abbrev Fg := PySem.W.Frag
def ow (A : List (Option Addr)) : List Addr := A.filterMap id
/-- the script's list: locked, or an object of the module, or one that nobody changes -/
def Sc (K : Fg) (av : List Addr) (H : Hp) (a : Addr) (xs : List V) : Prop := (∃ o, H a = some (.frz o (.lst xs))) ∨ (H a = some (.lst xs) ∧ a ∉ av) ∨
  ∃ (o : Obj) (its : Array Value) (n : Nat), K.lookup a = some o ∧ o.cls = .type "list" ∧ o.dict = none ∧ o.data = .seq its n ∧ its.size ≤ sizeLine ∧ Vals xs its.toList
mutual
inductive DR (K : Fg) (av : List Addr) (H : Hp) : V → PyData → Prop
  | non : DR K av H .non .none
  | bl (b : Bool) : DR K av H (.bl b) (.bool b)
  | int (i : Int) : DR K av H (.int i) (.int i)
  | str (z : Str) : DR K av H (.str z) (.str z)
  | tup {a : Addr} {xs : List V} {ds : List PyData} : SqT K H a xs → DRs K av H xs ds → DR K av H (.ref a) (.tuple ds)
  | lst {a : Addr} {xs : List V} {ds : List PyData} : H a = some (.lst xs) → a ∉ av → DRs K av H xs ds → DR K av H (.ref a) (.list ds)
inductive DRs (K : Fg) (av : List Addr) (H : Hp) : List V → List PyData → Prop
  | nil : DRs K av H [] []
  | cons {v : V} {vs : List V} {d : PyData} {ds : List PyData} : DR K av H v d → DRs K av H vs ds → DRs K av H (v :: vs) (d :: ds)
end
mutual
inductive WR (K : Fg) (ix : List Addr) (A : List (Option Addr)) (av : List Addr) (H : Hp) : V → W → Prop
  | d {v : V} {x : PyData} : DR K av H v x → WR K ix A av H v (.d x)
  | ref {n : Nat} {a : Addr} : ix[n]? = some a → WR K ix A av H (.ref a) (.ref n)
  | own {i : Nat} {a : Addr} : A[i]? = some (some a) → WR K ix A av H (.ref a) (.own i)
  | scr {a : Addr} {ns : List Int} : Sc K av H a (ns.map V.int) → WR K ix A av H (.ref a) (.scr ns)
  | adr {a : Addr} : WR K ix A av H (.ref a) (.adr a)
  | tw {a : Addr} {xs : List V} {ws : List W} : SqT K H a xs → WRs K ix A av H xs ws → WR K ix A av H (.ref a) (.tw ws)
  | lw {a : Addr} {xs : List V} {ws : List W} : H a = some (.lst xs) → a ∉ av → WRs K ix A av H xs ws → WR K ix A av H (.ref a) (.lw ws)
inductive WRs (K : Fg) (ix : List Addr) (A : List (Option Addr)) (av : List Addr) (H : Hp) : List V → List W → Prop
  | nil : WRs K ix A av H [] []
  | cons {v : V} {vs : List V} {w : W} {ws : List W} : WR K ix A av H v w → WRs K ix A av H vs ws → WRs K ix A av H (v :: vs) (w :: ws)
end
/-- fields, entries -/
inductive NRs (K : Fg) (ix : List Addr) (av : List Addr) (H : Hp) {k : Type} (g : Str → k) : List (k × V) → List (Str × W) → Prop
  | nil : NRs K ix av H g [] []
  | cons {x : Str} {v : V} {w : W} {vs : List (k × V)} {ws : List (Str × W)} : WR K ix [] av H v w → NRs K ix av H g vs ws → NRs K ix av H g ((g x, v) :: vs) ((x, w) :: ws)
def BR (K : Fg) (ix av : List Addr) (H : Hp) (a : Addr) : B → Prop
  | .lst ws => ∃ xs, H a = some (.lst xs) ∧ WRs K ix [] av H xs ws
  | .dct kvs => ∃ ks, H a = some (.dK ks) ∧ NRs K ix av H (Sum.inr : Str → Key) ks kvs
  | .ins c fs => ∃ dx gs, H a = some (.ins (He.ga K c) dx gs) ∧ NRs K ix av H id gs fs
  | .tbl p q => a = (He.cT K (p, none)).2 ∧ LamX.TabS H a q
structure MR (K : Fg) (ix av : List Addr) (H : Hp) (m : M) : Prop where
  len : ix.length = m.length
  box : ∀ (n : Nat) (b : B) (a : Addr), m[n]? = some b → ix[n]? = some a → BR K ix av H a b
/-- a slot -/
def SR (K : Fg) (ix av : List Addr) (H : Hp) (o : Option V) (oa : Option Addr) : Sl → Prop
  | .no => oa = none
  | .v w => oa = none ∧ ∃ v, o = some v ∧ WR K ix [] av H v w
  | .own ws => ∃ a xs, oa = some a ∧ o = some (.ref a) ∧ H a = some (.lst xs) ∧ WRs K ix [] av H xs ws
inductive SRs (K : Fg) (ix av : List Addr) (H : Hp) : List (Option V) → List (Option Addr) → List Sl → Prop
  | nil : SRs K ix av H [] [] []
  | cons {o : Option V} {a : Option Addr} {s : Sl} {os : List (Option V)} {as : List (Option Addr)} {ss : List Sl} : SR K ix av H o a s → SRs K ix av H os as ss → SRs K ix av H (o :: os) (a :: as) (s :: ss)
abbrev avo (U ix : List Addr) (A : List (Option Addr)) : List Addr := U ++ (ix ++ ow A)
structure Rel (K : Fg) (U ix : List Addr) (A : List (Option Addr)) (σ : L2.St) (H : Hp) (s : S) : Prop where
  mem : MR K ix (avo U ix A) H s.m
  slo : SRs K ix (avo U ix A) H σ A s.sl
  nd : (ix ++ ow A).Nodup
  un : ∀ u ∈ U, u ∉ ix ++ ow A ∧ ∃ o, vis H u = some o
/-- what an evaluation leaves as it was -/
structure Ext (ix : List Addr) (A : List (Option Addr)) (H : Hp) (ix' : List Addr) (A' : List (Option Addr)) (H' : Hp) : Prop where
  pre : ∀ (n : Nat) (a : Addr), ix[n]? = some a → ix'[n]? = some a
  new : ∀ a ∈ ix' ++ ow A', a ∈ ix ++ ow A ∨ vis H a = none
  fr : Fr (ix ++ ow A) (vis H) (vis H')

/-! ### values stand on -/
structure Tr (K : Fg) (ix av : List Addr) (H : Hp) (ix' av' : List Addr) (H' : Hp) : Prop where
  pre : ∀ (n : Nat) (a : Addr), ix[n]? = some a → ix'[n]? = some a
  lst : ∀ a xs, H a = some (.lst xs) → a ∉ av → H' a = some (.lst xs) ∧ a ∉ av'
  tup : ∀ a xs, SqT K H a xs → SqT K H' a xs
  frz : ∀ a o u, H a = some (.frz o u) → H' a = some (.frz o u)
  ext : ∀ a φ, H a = some (.ext φ) → H' a = some (.ext φ)
section
variable {K : Fg} {ix av : List Addr} {H : Hp} {ix' av' : List Addr} {H' : Hp} {A : List (Option Addr)}
mutual
theorem DR.tr (t : Tr K ix av H ix' av' H') : ∀ (d : PyData) (v : V), DR K av H v d → DR K av' H' v d
  | .none, _, h => by cases h; exact .non
  | .bool b, _, h => by cases h; exact .bl b
  | .int i, _, h => by cases h; exact .int i
  | .str z, _, h => by cases h; exact .str z
  | .list ds, _, h => by
    cases h with
    | lst h1 h2 h3 => exact .lst (t.lst _ _ h1 h2).1 (t.lst _ _ h1 h2).2 (DRs.tr t ds _ h3)
  | .tuple ds, _, h => by
    cases h with
    | tup h1 h2 => exact .tup (t.tup _ _ h1) (DRs.tr t ds _ h2)
  | .dict _, _, h => by cases h
theorem DRs.tr (t : Tr K ix av H ix' av' H') : ∀ (ds : List PyData) (vs : List V), DRs K av H vs ds → DRs K av' H' vs ds
  | [], _, h => by cases h; exact .nil
  | d :: ds, _, h => by
    cases h with
    | cons h1 h2 => exact .cons (DR.tr t d _ h1) (DRs.tr t ds _ h2)
end
theorem Sc.tr (t : Tr K ix av H ix' av' H') {a : Addr} {xs : List V} (h : Sc K av H a xs) : Sc K av' H' a xs := by
  rcases h with ⟨o, h⟩ | ⟨h, n⟩ | h
  · exact .inl ⟨o, t.frz _ _ _ h⟩
  · exact .inr (.inl (t.lst _ _ h n))
  · exact .inr (.inr h)
mutual
theorem WR.tr (t : Tr K ix av H ix' av' H') : ∀ (w : W) (v : V), WR K ix A av H v w → WR K ix' A av' H' v w
  | .d x, _, h => by
    cases h with
    | d h => exact .d (DR.tr t x _ h)
  | .ref n, _, h => by
    cases h with
    | ref h => exact .ref (t.pre _ _ h)
  | .own i, _, h => by
    cases h with
    | own h => exact .own h
  | .scr ns, _, h => by
    cases h with
    | scr h => exact .scr (Sc.tr t h)
  | .adr a, _, h => by
    cases h with
    | adr => exact .adr
  | .tw ws, _, h => by
    cases h with
    | tw h1 h2 => exact .tw (t.tup _ _ h1) (WRs.tr t ws _ h2)
  | .lw ws, _, h => by
    cases h with
    | lw h1 h2 h3 => exact .lw (t.lst _ _ h1 h2).1 (t.lst _ _ h1 h2).2 (WRs.tr t ws _ h3)
theorem WRs.tr (t : Tr K ix av H ix' av' H') : ∀ (ws : List W) (vs : List V), WRs K ix A av H vs ws → WRs K ix' A av' H' vs ws
  | [], _, h => by cases h; exact .nil
  | w :: ws, _, h => by
    cases h with
    | cons h1 h2 => exact .cons (WR.tr t w _ h1) (WRs.tr t ws _ h2)
end
theorem NRs.tr (t : Tr K ix av H ix' av' H') {k : Type} {g : Str → k} : ∀ {vs : List (k × V)} {ws : List (Str × W)}, NRs K ix av H g vs ws → NRs K ix' av' H' g vs ws
  | _, _, .nil => .nil
  | _, _, .cons h r => .cons (WR.tr t _ _ h) (NRs.tr t r)
theorem WRs.len : ∀ {vs : List V} {ws : List W}, WRs K ix A av H vs ws → vs.length = ws.length
  | _, _, .nil => rfl
  | _, _, .cons _ h => by simp [WRs.len h]
theorem DRs.len : ∀ {vs : List V} {ws : List PyData}, DRs K av H vs ws → vs.length = ws.length
  | _, _, .nil => rfl
  | _, _, .cons _ h => by simp [DRs.len h]
theorem SRs.len : ∀ {os : List (Option V)} {as : List (Option Addr)} {ss : List Sl}, SRs K ix av H os as ss → os.length = ss.length ∧ as.length = ss.length
  | _, _, _, .nil => ⟨rfl, rfl⟩
  | _, _, _, .cons _ h => by simp [SRs.len h]
theorem SRs.get : ∀ {os : List (Option V)} {as : List (Option Addr)} {ss : List Sl} {i : Nat} {s : Sl}, SRs K ix av H os as ss → ss[i]? = some s → ∃ o a, os[i]? = some o ∧ as[i]? = some a ∧ SR K ix av H o a s
  | _, _, _, 0, _, .cons h _, e => by
    cases e
    exact ⟨_, _, rfl, rfl, h⟩
  | _, _, _, i + 1, s, .cons _ h, e => by
    obtain ⟨o, a, h1, h2, h3⟩ := SRs.get h (i := i) (s := s) (by simpa using e)
    exact ⟨o, a, by simpa using h1, by simpa using h2, h3⟩
  | _, _, _, _, _, .nil, e => by simp at e
theorem ow_mem {A : List (Option Addr)} {a : Addr} : a ∈ ow A ↔ some a ∈ A := by
  unfold ow
  simp
theorem ow_get {A : List (Option Addr)} {a : Addr} {i : Nat} (h : A[i]? = some (some a)) : a ∈ ow A := ow_mem.mpr (List.mem_of_getElem? h)
/-- two slots own two lists -/
theorem ow_inj : ∀ {A : List (Option Addr)} {a : Addr} {i j : Nat}, (ow A).Nodup → A[i]? = some (some a) → A[j]? = some (some a) → i = j
  | [], _, _, _, _, h, _ => by simp at h
  | o :: A, a, 0, 0, _, _, _ => rfl
  | o :: A, a, 0, j + 1, n, h1, h2 => by
    have h1' : o = some a := by simpa using h1
    subst h1'
    have h2' : A[j]? = some (some a) := by simpa using h2
    have : ow (some a :: A) = a :: ow A := rfl
    rw [this] at n
    exact absurd (ow_get h2') (List.nodup_cons.mp n).1
  | o :: A, a, i + 1, 0, n, h1, h2 => by
    have h2' : o = some a := by simpa using h2
    subst h2'
    have h1' : A[i]? = some (some a) := by simpa using h1
    have : ow (some a :: A) = a :: ow A := rfl
    rw [this] at n
    exact absurd (ow_get h1') (List.nodup_cons.mp n).1
  | o :: A, a, i + 1, j + 1, n, h1, h2 => by
    have n' : (ow A).Nodup := by
      cases o with
      | none => exact n
      | some b => exact (List.nodup_cons.mp (show (b :: ow A).Nodup from n)).2
    exact congrArg (· + 1) (ow_inj n' (by simpa using h1) (by simpa using h2))
end
section
variable {K : Fg} {U ix : List Addr} {A : List (Option Addr)} {H : Hp} {ix' : List Addr} {A' : List (Option Addr)} {H' : Hp} {ix2 : List Addr} {A2 : List (Option Addr)} {H2 : Hp} {σ : L2.St} {s : S}
theorem Ext.tr (x : Ext ix A H ix' A' H') : Tr K ix (avo U ix A) H ix' (avo U ix' A') H' where
  pre := x.pre
  lst := fun a xs h n => by
    have n1 : a ∉ U := fun z => n (List.mem_append_left _ z)
    have n2 : a ∉ ix ++ ow A := fun z => n (List.mem_append_right _ z)
    refine ⟨x.fr.atL h n2, fun z => ?_⟩
    rcases List.mem_append.mp z with z | z
    · exact n1 z
    · rcases x.new a z with z | z
      · exact n2 z
      · rw [vis_of h] at z
        cases z
  tup := fun a xs h => x.fr.sqtV h
  frz := fun a o u h => (of_vis (x.fr.frz (vis_of h))).1
  ext := fun a φ h => (of_vis (x.fr.ext (vis_of h))).1
theorem Ext.refl : Ext ix A H ix A H := ⟨fun _ _ h => h, fun _ h => .inl h, .refl _ _⟩
theorem Ext.trans (x : Ext ix A H ix' A' H') (y : Ext ix' A' H' ix2 A2 H2) : Ext ix A H ix2 A2 H2 where
  pre := fun n a h => y.pre n a (x.pre n a h)
  new := fun a h => by
    rcases y.new a h with z | z
    · exact x.new a z
    · by_cases q : a ∈ ix ++ ow A
      · exact .inl q
      · exact .inr (x.fr.free z q)
  fr := by
    refine ⟨fun b o h n => ?_, fun h => y.fr.tup (x.fr.tup h), fun h => y.fr.frz (x.fr.frz h), fun h => y.fr.ext (x.fr.ext h)⟩
    refine y.fr.all b o (x.fr.all b o h n) fun z => ?_
    rcases x.new b z with q | q
    · exact n q
    · rw [q] at h
      cases h
/-- new objects alone -/
theorem Ext.of0 (f : Fr [] H H') : Ext ix A H ix A H' := ⟨fun _ _ h => h, fun _ h => .inl h, f.to.vis⟩
/-- all boxes, slots and lists out of reach stand on, where nothing of them was changed -/
theorem Rel.tr0 (r : Rel K U ix A σ H s) (f : Fr [] H H') : Rel K U ix A σ H' s := by
  have t : Tr K ix (avo U ix A) H ix (avo U ix A) H' := (Ext.of0 f).tr
  refine ⟨⟨r.mem.len, fun n b a h1 h2 => ?_⟩, ?_, r.nd, fun u hu => ⟨(r.un u hu).1, ?_⟩⟩
  · have h := r.mem.box n b a h1 h2
    cases b with
    | lst ws =>
      obtain ⟨xs, h1, h2⟩ := h
      exact ⟨xs, f.at0 h1, WRs.tr t _ _ h2⟩
    | dct ws =>
      obtain ⟨xs, h1, h2⟩ := h
      exact ⟨xs, f.at0 h1, NRs.tr t h2⟩
    | ins c ws =>
      obtain ⟨dx, xs, h1, h2⟩ := h
      exact ⟨dx, xs, f.at0 h1, NRs.tr t h2⟩
    | tbl p q => exact ⟨h.1, h.2.ext fun _ _ h => f.at0 h⟩
  · have h := r.slo
    revert h
    generalize s.sl = ss
    have go : ∀ {os : List (Option V)} {as : List (Option Addr)} {ss : List Sl}, SRs K ix (avo U ix A) H os as ss → SRs K ix (avo U ix A) H' os as ss := by
      intro os as ss h
      induction h with
      | nil => exact .nil
      | @cons o a s1 os as ss h1 h2 ih =>
        refine .cons ?_ ih
        cases s1 with
        | no => exact h1
        | v w =>
          obtain ⟨e, v, e2, h3⟩ := h1
          exact ⟨e, v, e2, WR.tr t _ _ h3⟩
        | own ws =>
          obtain ⟨a, xs, e1, e2, h3, h4⟩ := h1
          exact ⟨a, xs, e1, e2, f.at0 h3, WRs.tr t _ _ h4⟩
    exact go
  · obtain ⟨o, h⟩ := (r.un u hu).2
    exact ⟨o, f.vis.at0 h⟩
theorem Rel.trk (r : Rel K U ix A σ H s) : ∀ a ∈ ix ++ ow A, ∃ o, H a = some o := fun a h => by
  rcases List.mem_append.mp h with h | h
  · obtain ⟨n, hn⟩ := List.getElem?_of_mem h
    have hl : n < s.m.length := by
      rw [← r.mem.len]
      exact (List.getElem?_eq_some_iff.mp hn).1
    have q := r.mem.box n _ a (List.getElem?_eq_getElem hl) hn
    revert q
    cases s.m[n] with
    | lst ws => exact fun ⟨xs, h1, _⟩ => ⟨_, h1⟩
    | dct ws => exact fun ⟨xs, h1, _⟩ => ⟨_, h1⟩
    | ins c ws => exact fun ⟨dx, xs, h1, _⟩ => ⟨_, h1⟩
    | tbl p q => exact fun ⟨_, ps, h1, _⟩ => ⟨_, h1⟩
  · obtain ⟨i, hi⟩ := List.getElem?_of_mem (ow_mem.mp h)
    have hl : i < s.sl.length := by
      rw [← r.slo.len.2]
      exact (List.getElem?_eq_some_iff.mp hi).1
    obtain ⟨o, oa, h1, h2, h3⟩ := r.slo.get (List.getElem?_eq_getElem hl)
    rw [hi] at h2
    cases h2
    revert h3
    cases s.sl[i] with
    | no => exact fun h => by cases h
    | v w => exact fun h => by cases h.1
    | own ws => exact fun ⟨a', xs, e1, _, h1, _⟩ => by cases e1; exact ⟨_, h1⟩
end
section
variable {K : Fg} {U ix : List Addr} {A : List (Option Addr)} {H : Hp} {σ : L2.St} {s : S}
theorem Rel.trkO (r : Rel K U ix A σ H s) : ∀ a ∈ ow A, ∃ o, vis H a = some o := fun a h => by
  obtain ⟨i, hi⟩ := List.getElem?_of_mem (ow_mem.mp h)
  have hl : i < s.sl.length := by
    rw [← r.slo.len.2]
    exact (List.getElem?_eq_some_iff.mp hi).1
  obtain ⟨o, oa, h1, h2, h3⟩ := r.slo.get (List.getElem?_eq_getElem hl)
  rw [hi] at h2
  cases h2
  revert h3
  cases s.sl[i] with
  | no => exact fun h => by cases h
  | v w => exact fun h => by cases h.1
  | own ws => exact fun ⟨a', xs, e1, _, h1, _⟩ => by cases e1; exact ⟨_, vis_of h1⟩
end
/-! ### changes -/
section
variable {K : Fg} {ix av : List Addr} {H : Hp} {ix' av' : List Addr} {H' : Hp}
theorem BR.tr (t : Tr K ix av H ix' av' H') {a : Addr} {b : B} (ha : ∀ o, H a = some o → H' a = some o) (h : BR K ix av H a b) : BR K ix' av' H' a b := by
  cases b with
  | lst ws =>
    obtain ⟨xs, h1, h2⟩ := h
    exact ⟨xs, ha _ h1, WRs.tr t _ _ h2⟩
  | dct ws =>
    obtain ⟨xs, h1, h2⟩ := h
    exact ⟨xs, ha _ h1, NRs.tr t h2⟩
  | ins c ws =>
    obtain ⟨dx, xs, h1, h2⟩ := h
    exact ⟨dx, xs, ha _ h1, NRs.tr t h2⟩
  | tbl p q =>
    obtain ⟨e, ps, h1, h2, h3⟩ := h
    refine ⟨e, ps, ha _ h1, h2, fun pos cv hc => ?_⟩
    obtain ⟨c, e1, e2⟩ := h3 pos cv hc
    exact ⟨c, e1, t.ext _ _ e2⟩
theorem SR.tr (t : Tr K ix av H ix' av' H') {o : Option V} {oa : Option Addr} {s : Sl} (ha : ∀ a, oa = some a → ∀ xs, H a = some (.lst xs) → H' a = some (.lst xs)) (h : SR K ix av H o oa s) : SR K ix' av' H' o oa s := by
  cases s with
  | no => exact h
  | v w =>
    obtain ⟨e, v, e2, h3⟩ := h
    exact ⟨e, v, e2, WR.tr t _ _ h3⟩
  | own ws =>
    obtain ⟨a, xs, e1, e2, h3, h4⟩ := h
    exact ⟨a, xs, e1, e2, ha a e1 _ h3, WRs.tr t _ _ h4⟩
theorem SRs.of : ∀ {os : List (Option V)} {as : List (Option Addr)} {ss : List Sl}, os.length = ss.length → as.length = ss.length →
    (∀ (i : Nat) (o : Option V) (a : Option Addr) (s : Sl), os[i]? = some o → as[i]? = some a → ss[i]? = some s → SR K ix av H o a s) → SRs K ix av H os as ss
  | [], [], [], _, _, _ => .nil
  | o :: os, a :: as, s :: ss, h1, h2, h => .cons (h 0 o a s rfl rfl rfl) (SRs.of (by simpa using h1) (by simpa using h2) fun i o' a' s' e1 e2 e3 => h (i + 1) o' a' s' (by simpa using e1) (by simpa using e2) (by simpa using e3))
  | [], _ :: _, [], _, h, _ => by simp at h
  | [], _, _ :: _, h, _, _ => by simp at h
  | _ :: _, _, [], h, _, _ => by simp at h
  | _ :: _, [], _ :: _, _, h, _ => by simp at h
theorem WRs.get {A : List (Option Addr)} : ∀ {vs : List V} {ws : List W} {i : Nat} {w : W}, WRs K ix A av H vs ws → ws[i]? = some w → ∃ v, vs[i]? = some v ∧ WR K ix A av H v w
  | _, _, 0, _, .cons h _, e => by
    cases e
    exact ⟨_, rfl, h⟩
  | _, _, i + 1, w, .cons _ h, e => by
    obtain ⟨v, e1, h1⟩ := WRs.get h (i := i) (w := w) (by simpa using e)
    exact ⟨v, by simpa using e1, h1⟩
  | _, _, _, _, .nil, e => by simp at e
theorem WRs.append {A : List (Option Addr)} : ∀ {vs vs' : List V} {ws ws' : List W}, WRs K ix A av H vs ws → WRs K ix A av H vs' ws' → WRs K ix A av H (vs ++ vs') (ws ++ ws')
  | _, _, _, _, .nil, h => h
  | _, _, _, _, .cons h h', q => .cons h (WRs.append h' q)
theorem WRs.take {A : List (Option Addr)} : ∀ {vs : List V} {ws : List W} (i : Nat), WRs K ix A av H vs ws → WRs K ix A av H (vs.take i) (ws.take i)
  | _, _, 0, _ => by simpa using WRs.nil
  | _, _, i + 1, .nil => by simpa using WRs.nil
  | _, _, i + 1, .cons h h' => .cons h (WRs.take i h')
theorem WRs.drop {A : List (Option Addr)} : ∀ {vs : List V} {ws : List W} (i : Nat), WRs K ix A av H vs ws → WRs K ix A av H (vs.drop i) (ws.drop i)
  | _, _, 0, h => by simpa using h
  | _, _, i + 1, .nil => by simpa using WRs.nil
  | _, _, i + 1, .cons h h' => WRs.drop i h'
theorem WRs.set {A : List (Option Addr)} {v : V} {w : W} (q : WR K ix A av H v w) : ∀ {vs : List V} {ws : List W} (i : Nat), WRs K ix A av H vs ws → WRs K ix A av H (vs.set i v) (ws.set i w)
  | _, _, _, .nil => .nil
  | _, _, 0, .cons h h' => .cons q h'
  | _, _, i + 1, .cons h h' => .cons h (WRs.set q i h')
theorem WRs.rev {A : List (Option Addr)} : ∀ {vs : List V} {ws : List W}, WRs K ix A av H vs ws → WRs K ix A av H vs.reverse ws.reverse
  | _, _, .nil => .nil
  | _, _, .cons h h' => by
    rw [List.reverse_cons, List.reverse_cons]
    exact WRs.append (WRs.rev h') (.cons h .nil)
theorem WRs.eraseIdx {A : List (Option Addr)} : ∀ {vs : List V} {ws : List W} (i : Nat), WRs K ix A av H vs ws → WRs K ix A av H (vs.eraseIdx i) (ws.eraseIdx i)
  | _, _, _, .nil => .nil
  | _, _, 0, .cons h h' => h'
  | _, _, i + 1, .cons h h' => .cons h (WRs.eraseIdx i h')
theorem WRs.rep {A : List (Option Addr)} {vs : List V} {ws : List W} (h : WRs K ix A av H vs ws) : ∀ n : Nat, WRs K ix A av H (List.replicate n vs).flatten (List.replicate n ws).flatten
  | 0 => .nil
  | n + 1 => by
    rw [List.replicate_succ, List.replicate_succ, List.flatten_cons, List.flatten_cons]
    exact WRs.append h (WRs.rep h n)
theorem WRs.ofD {A : List (Option Addr)} : ∀ {vs : List V} {ds : List PyData}, DRs K av H vs ds → WRs K ix A av H vs (ds.map W.d)
  | _, _, .nil => .nil
  | _, _, .cons h r => .cons (.d h) (WRs.ofD r)
theorem NRs.get {k : Type} [DecidableEq k] {g : Str → k} (hg : ∀ a b, g a = g b → a = b) {x : Str} : ∀ {vs : List (k × V)} {ws : List (Str × W)} {w : W}, NRs K ix av H g vs ws → ws.lookup x = some w → ∃ v, vs.lookup (g x) = some v ∧ WR K ix [] av H v w
  | _, _, _, .nil, e => by simp at e
  | _, _, w, .cons (x := y) h r, e => by
    by_cases q : x = y
    · subst q
      simp only [List.lookup_cons, beq_self_eq_true] at e ⊢
      cases e
      exact ⟨_, rfl, h⟩
    · have h1 : (x == y) = false := beq_eq_false_iff_ne.mpr q
      have h2 : (g x == g y) = false := beq_eq_false_iff_ne.mpr fun z => q (hg _ _ z)
      simp only [List.lookup_cons, h1, h2] at e ⊢
      exact NRs.get hg r e
theorem NRs.none {k : Type} [DecidableEq k] {g : Str → k} (hg : ∀ a b, g a = g b → a = b) {x : Str} : ∀ {vs : List (k × V)} {ws : List (Str × W)}, NRs K ix av H g vs ws → ws.lookup x = none → vs.lookup (g x) = none
  | _, _, .nil, e => rfl
  | _, _, .cons (x := y) h r, e => by
    by_cases q : x = y
    · subst q
      simp [List.lookup_cons] at e
    · have h1 : (x == y) = false := beq_eq_false_iff_ne.mpr q
      have h2 : (g x == g y) = false := beq_eq_false_iff_ne.mpr fun z => q (hg _ _ z)
      simp only [List.lookup_cons, h1, h2] at e ⊢
      exact NRs.none hg r e
theorem NRs.len {k : Type} {g : Str → k} : ∀ {vs : List (k × V)} {ws : List (Str × W)}, NRs K ix av H g vs ws → vs.length = ws.length
  | _, _, .nil => rfl
  | _, _, .cons _ h => by simp [NRs.len h]
end
section
variable {K : Fg} {U ix : List Addr} {A : List (Option Addr)} {H : Hp} {ix' : List Addr} {A' : List (Option Addr)} {H' : Hp} {σ : L2.St} {s : S}
theorem Ext.put {a : Addr} (ha : a ∈ ix ++ ow A) (f : Fr [a] H H') : Ext ix A H ix A H' := ⟨fun _ _ h => h, fun _ h => .inl h, (f.mono fun b hb => by
  have : b = a := by simpa using hb
  rw [this]
  exact ha).vis⟩
theorem Rel.disj (r : Rel K U ix A σ H s) {a : Addr} (h1 : a ∈ ix) (h2 : a ∈ ow A) : False := (List.nodup_append.mp r.nd).2.2 a h1 a h2 rfl
theorem ix_inj {ix : List Addr} (h : ix.Nodup) {i j : Nat} {a : Addr} (h1 : ix[i]? = some a) (h2 : ix[j]? = some a) : i = j := by
  obtain ⟨l1, e1⟩ := List.getElem?_eq_some_iff.mp h1
  obtain ⟨l2, e2⟩ := List.getElem?_eq_some_iff.mp h2
  exact (List.getElem_inj h).mp (e1.trans e2.symm)
/-- a box is written -/
theorem Rel.put (r : Rel K U ix A σ H s) {n : Nat} {a : Addr} {b : B} (hn : ix[n]? = some a) (f : Fr [a] H H') (new : BR K ix (avo U ix A) H' a b) : Rel K U ix A σ H' { s with m := s.m.set n b } ∧ Ext ix A H ix A H' := by
  have hmem : a ∈ ix := List.mem_of_getElem? hn
  have x : Ext ix A H ix A H' := .put (List.mem_append_left _ hmem) f
  have t : Tr K ix (avo U ix A) H ix (avo U ix A) H' := x.tr
  have ne : ∀ b, b ≠ a → b ∉ [a] := fun b h z => h (by simpa using z)
  refine ⟨⟨⟨by rw [List.length_set]; exact r.mem.len, fun k b' c h1 h2 => ?_⟩, ?_, r.nd, fun u hu => ⟨(r.un u hu).1, ?_⟩⟩, x⟩
  · by_cases e : k = n
    · subst e
      have hlt : k < s.m.length := by
        rw [← r.mem.len]
        exact (List.getElem?_eq_some_iff.mp hn).1
      rw [List.getElem?_set_self hlt] at h1
      cases h1
      rw [hn] at h2
      cases h2
      exact new
    · rw [List.getElem?_set_ne (Ne.symm e)] at h1
      refine BR.tr t (fun o h => f.all _ _ h (ne _ fun z => e ?_)) (r.mem.box k b' c h1 h2)
      subst z
      exact ix_inj (List.nodup_append.mp r.nd).1 h2 hn
  · refine .of r.slo.len.1 r.slo.len.2 fun i o oa sl h1 h2 h3 => ?_
    obtain ⟨o', oa', e1, e2, h⟩ := r.slo.get h3
    rw [h1] at e1
    rw [h2] at e2
    cases e1
    cases e2
    refine SR.tr t (fun c hc u hu => f.all _ _ hu (ne _ fun z => ?_)) h
    subst hc z
    exact r.disj hmem (ow_get h2)
  · obtain ⟨o, ho⟩ := (r.un u hu).2
    exact ⟨o, f.vis.all _ _ ho (ne _ fun z => (r.un u hu).1 (by rw [z]; exact List.mem_append_left _ hmem))⟩
/-- a slot's own list is written -/
theorem Rel.putOwn (r : Rel K U ix A σ H s) {i : Nat} {a : Addr} {xs : List V} {ws : List W} (hi : A[i]? = some (some a)) (f : Fr [a] H H') (hx : H' a = some (.lst xs)) (hw : WRs K ix [] (avo U ix A) H' xs ws) :
    Rel K U ix A σ H' { s with sl := s.sl.set i (.own ws) } ∧ Ext ix A H ix A H' := by
  have hmem : a ∈ ow A := ow_get hi
  have x : Ext ix A H ix A H' := .put (List.mem_append_right _ hmem) f
  have t : Tr K ix (avo U ix A) H ix (avo U ix A) H' := x.tr
  have ne : ∀ b, b ≠ a → b ∉ [a] := fun b h z => h (by simpa using z)
  have hlt : i < s.sl.length := by
    rw [← r.slo.len.2]
    exact (List.getElem?_eq_some_iff.mp hi).1
  refine ⟨⟨⟨r.mem.len, fun k b' c h1 h2 => ?_⟩, ?_, r.nd, fun u hu => ⟨(r.un u hu).1, ?_⟩⟩, x⟩
  · refine BR.tr t (fun o h => f.all _ _ h (ne _ fun z => ?_)) (r.mem.box k b' c h1 h2)
    subst z
    exact r.disj (List.mem_of_getElem? h2) hmem
  · refine .of (by rw [List.length_set]; exact r.slo.len.1) (by rw [List.length_set]; exact r.slo.len.2) fun j o oa sl h1 h2 h3 => ?_
    by_cases e : j = i
    · subst e
      rw [List.getElem?_set_self hlt] at h3
      cases h3
      rw [hi] at h2
      cases h2
      obtain ⟨o', oa', e1, e2, h⟩ := r.slo.get (List.getElem?_eq_getElem hlt)
      rw [h1] at e1
      cases e1
      rw [hi] at e2
      cases e2
      revert h
      cases s.sl[j] with
      | no => exact fun h => by cases h
      | v w => exact fun h => by cases h.1
      | own ws' => exact fun ⟨a', xs', e1, e2, _, _⟩ => ⟨a, xs, rfl, by cases e1; exact e2, hx, hw⟩
    · rw [List.getElem?_set_ne (Ne.symm e)] at h3
      obtain ⟨o', oa', e1, e2, h⟩ := r.slo.get h3
      rw [h1] at e1
      rw [h2] at e2
      cases e1
      cases e2
      refine SR.tr t (fun c hc u hu => f.all _ _ hu (ne _ fun z => e ?_)) h
      subst hc z
      exact ow_inj (List.nodup_append.mp r.nd).2.1 h2 hi
  · obtain ⟨o, ho⟩ := (r.un u hu).2
    exact ⟨o, f.vis.all _ _ ho (ne _ fun z => (r.un u hu).1 (by rw [z]; exact List.mem_append_right _ hmem))⟩
/-- a new object that none of ours speaks of is set aside -/
theorem Rel.res (r : Rel K U ix A σ H s) {p : Addr} {o : HO} (hp : H p = none) (f : Fr [] H H') (ho : H' p = some o) (nt : ∀ ps, o ≠ .tbl ps := by intro ps h; cases h) : Rel K (p :: U) ix A σ H' s := by
  have np : p ∉ ix ++ ow A := fun z => by
    obtain ⟨o, h⟩ := r.trk p z
    rw [hp] at h
    cases h
  have t : Tr K ix (avo U ix A) H ix (avo (p :: U) ix A) H' := ⟨fun _ _ h => h, fun a xs h n => ⟨f.at0 h, fun z => by
    rcases List.mem_cons.mp (show a ∈ p :: (U ++ (ix ++ ow A)) from z) with e | e
    · subst e
      rw [hp] at h
      cases h
    · exact n e⟩, fun a xs h => f.sqt h, fun a o u h => f.frz h, fun a φ h => f.ext h⟩
  refine ⟨⟨r.mem.len, fun k b' c h1 h2 => BR.tr t (fun o h => f.at0 h) (r.mem.box k b' c h1 h2)⟩, .of r.slo.len.1 r.slo.len.2 fun i o oa sl h1 h2 h3 => ?_, r.nd, fun u hu => ?_⟩
  · obtain ⟨o', oa', e1, e2, h⟩ := r.slo.get h3
    rw [h1] at e1
    rw [h2] at e2
    cases e1
    cases e2
    exact SR.tr t (fun c hc u hu => f.at0 hu) h
  · rcases List.mem_cons.mp hu with e | hu
    · subst e
      exact ⟨np, _, vis_of ho nt⟩
    · obtain ⟨o, ho⟩ := (r.un u hu).2
      exact ⟨(r.un u hu).1, o, f.vis.at0 ho⟩
/-- what was set aside is let go: it may be data -/
theorem Rel.let (r : Rel K (U ++ U') ix A σ H s) : Rel K U' ix A σ H s := by
  have t : Tr K ix (avo (U ++ U') ix A) H ix (avo U' ix A) H := ⟨fun _ _ h => h, fun a xs h n => ⟨h, fun z => n (by
    rcases List.mem_append.mp z with z | z
    · exact List.mem_append_left _ (List.mem_append_right _ z)
    · exact List.mem_append_right _ z)⟩, fun a xs h => h, fun a o u h => h, fun a φ h => h⟩
  refine ⟨⟨r.mem.len, fun k b' c h1 h2 => BR.tr t (fun o h => h) (r.mem.box k b' c h1 h2)⟩, .of r.slo.len.1 r.slo.len.2 fun i o oa sl h1 h2 h3 => ?_, r.nd, fun u hu => r.un u (List.mem_append_right _ hu)⟩
  obtain ⟨o', oa', e1, e2, h⟩ := r.slo.get h3
  rw [h1] at e1
  rw [h2] at e2
  cases e1
  cases e2
  exact SR.tr t (fun c hc u hu => hu) h
end
end FE

/-! FE2: slots, reading and writing lists, kinds of answers, the readings. -/
namespace FE
open PySem PySem.Spec PyProof.Rows L2 KR
mutual
def free : W → Bool
  | .own _ => false
  | .d _ | .ref _ | .scr _ | .adr _ => true
  | .tw ws | .lw ws => frees ws
def frees : List W → Bool
  | [] => true
  | w :: ws => free w && frees ws
end
def allD : List W → Option (List PyData)
  | [] => some []
  | .d x :: r => match allD r with
    | some ds => some (x :: ds)
    | none => none
  | _ => none
def mkL (ws : List W) : W := match allD ws with
  | some ds => .d (.list ds)
  | none => .lw ws
def mkT (ws : List W) : W := match allD ws with
  | some ds => .d (.tuple ds)
  | none => .tw ws
def readL (s : S) : W → Option (List W)
  | .d (.list ds) => some (ds.map .d)
  | .lw ws => some ws
  | .ref n => match s.m[n]? with
    | some (.lst ws) => some ws
    | _ => none
  | .own i => match s.sl[i]? with
    | some (.own ws) => some ws
    | _ => none
  | _ => none
def readT : W → Option (List W)
  | .d (.tuple ds) => some (ds.map .d)
  | .tw ws => some ws
  | _ => none
def toD (s : S) : W → Option PyData
  | .d x => some x
  | w => match readL s w with
    | some ws => (allD ws).map .list
    | none => none
def wrL (s : S) (w : W) (ws : List W) : Option S := match w with
  | .ref n => some { s with m := s.m.set n (.lst ws) }
  | .own i => some { s with sl := s.sl.set i (.own ws) }
  | _ => none
section
variable {K : Fg} {ix av : List Addr} {A : List (Option Addr)} {H : Hp}
mutual
theorem WR.free : ∀ (w : W) (v : V), FE.free w = true → WR K ix A av H v w → WR K ix [] av H v w
  | .d x, _, _, h => by cases h with | d h => exact .d h
  | .ref n, _, _, h => by cases h with | ref h => exact .ref h
  | .own i, _, e, _ => by simp [FE.free] at e
  | .scr ns, _, _, h => by cases h with | scr h => exact .scr h
  | .adr a, _, _, h => by cases h with | adr => exact .adr
  | .tw ws, _, e, h => by cases h with | tw h1 h2 => exact .tw h1 (WRs.frees ws _ (by simpa [FE.free] using e) h2)
  | .lw ws, _, e, h => by cases h with | lw h1 h2 h3 => exact .lw h1 h2 (WRs.frees ws _ (by simpa [FE.free] using e) h3)
theorem WRs.frees : ∀ (ws : List W) (vs : List V), FE.frees ws = true → WRs K ix A av H vs ws → WRs K ix [] av H vs ws
  | [], _, _, h => by cases h; exact .nil
  | w :: ws, _, e, h => by
    have e' : FE.free w = true ∧ FE.frees ws = true := by simpa [FE.frees] using e
    cases h with
    | cons h1 h2 => exact .cons (WR.free w _ e'.1 h1) (WRs.frees ws _ e'.2 h2)
end
mutual
theorem WR.lift : ∀ (w : W) (v : V), WR K ix [] av H v w → WR K ix A av H v w
  | .d x, _, h => by cases h with | d h => exact .d h
  | .ref n, _, h => by cases h with | ref h => exact .ref h
  | .own i, _, h => by cases h with | own h => simp at h
  | .scr ns, _, h => by cases h with | scr h => exact .scr h
  | .adr a, _, h => by cases h with | adr => exact .adr
  | .tw ws, _, h => by cases h with | tw h1 h2 => exact .tw h1 (WRs.lift ws _ h2)
  | .lw ws, _, h => by cases h with | lw h1 h2 h3 => exact .lw h1 h2 (WRs.lift ws _ h3)
theorem WRs.lift : ∀ (ws : List W) (vs : List V), WRs K ix [] av H vs ws → WRs K ix A av H vs ws
  | [], _, h => by cases h; exact .nil
  | w :: ws, _, h => by cases h with | cons h1 h2 => exact .cons (WR.lift w _ h1) (WRs.lift ws _ h2)
end
theorem allD_ok : ∀ {ws : List W} {ds : List PyData} {vs : List V}, allD ws = some ds → WRs K ix A av H vs ws → DRs K av H vs ds
  | [], _, _, e, h => by
    cases h
    cases e
    exact .nil
  | .d x :: r, ds, _, e, h => by
    cases h with
    | cons h1 h2 =>
      cases h1 with
      | d h1 =>
        cases q : allD r with
        | none => simp [allD, q] at e
        | some es =>
          simp only [allD, q] at e
          cases e
          exact .cons h1 (allD_ok q h2)
  | .ref _ :: _, _, _, e, _ | .own _ :: _, _, _, e, _ | .scr _ :: _, _, _, e, _ | .adr _ :: _, _, _, e, _ | .tw _ :: _, _, _, e, _ | .lw _ :: _, _, _, e, _ => by simp [allD] at e
theorem allD_map : ∀ ds : List PyData, allD (ds.map W.d) = some ds
  | [] => rfl
  | d :: ds => by
    show (match allD (ds.map W.d) with | some ds => some (d :: ds) | none => none) = _
    rw [allD_map ds]
theorem mkL_map (ds : List PyData) : mkL (ds.map W.d) = .d (.list ds) := by unfold mkL; rw [allD_map]
theorem mkT_map (ds : List PyData) : mkT (ds.map W.d) = .d (.tuple ds) := by unfold mkT; rw [allD_map]
theorem WR.mkL {a : Addr} {xs : List V} {ws : List W} (h : H a = some (.lst xs)) (n : a ∉ av) (r : WRs K ix A av H xs ws) : WR K ix A av H (.ref a) (FE.mkL ws) := by
  unfold FE.mkL
  cases q : allD ws with
  | some ds => exact .d (.lst h n (allD_ok q r))
  | none => exact .lw h n r
theorem WR.mkT {a : Addr} {xs : List V} {ws : List W} (h : SqT K H a xs) (r : WRs K ix A av H xs ws) : WR K ix A av H (.ref a) (FE.mkT ws) := by
  unfold FE.mkT
  cases q : allD ws with
  | some ds => exact .d (.tup h (allD_ok q r))
  | none => exact .tw h r
mutual
theorem DR.dp : ∀ (d : PyData) (v : V), DR K av H v d → Dp K H v d
  | .none, _, h => by cases h; exact .non
  | .bool b, _, h => by cases h; exact .bl b
  | .int i, _, h => by cases h; exact .int i
  | .str z, _, h => by cases h; exact .str z
  | .list ds, _, h => by cases h with | lst h1 h2 h3 => exact .lst (SqL.of h1) (DRs.dp ds _ h3)
  | .tuple ds, _, h => by cases h with | tup h1 h2 => exact .tup h1 (DRs.dp ds _ h2)
  | .dict _, _, h => by cases h
theorem DRs.dp : ∀ (ds : List PyData) (vs : List V), DRs K av H vs ds → DpAll K H vs ds
  | [], _, h => by cases h; exact .nil
  | d :: ds, _, h => by cases h with | cons h1 h2 => exact .cons (DR.dp d _ h1) (DRs.dp ds _ h2)
end
theorem WR.int {v : V} {i : Int} (h : WR K ix A av H v (.d (.int i))) : v = .int i := by
  cases h with | d h => cases h; rfl
theorem WR.str {v : V} {i : Str} (h : WR K ix A av H v (.d (.str i))) : v = .str i := by
  cases h with | d h => cases h; rfl
theorem WR.bl {v : V} {i : Bool} (h : WR K ix A av H v (.d (.bool i))) : v = .bl i := by
  cases h with | d h => cases h; rfl
theorem WR.non {v : V} (h : WR K ix A av H v (.d .none)) : v = .non := by
  cases h with | d h => cases h; rfl
theorem WR.mkI (i : Int) : WR K ix A av H (.int i) (.d (.int i)) := .d (.int i)
theorem WR.mkS (i : Str) : WR K ix A av H (.str i) (.d (.str i)) := .d (.str i)
theorem WR.mkB (i : Bool) : WR K ix A av H (.bl i) (.d (.bool i)) := .d (.bl i)
theorem WR.mkN : WR K ix A av H .non (.d .none) := .d .non
theorem readT_ok {v : V} {w : W} {ws : List W} (h : WR K ix A av H v w) (e : readT w = some ws) : ∃ a xs, v = .ref a ∧ SqT K H a xs ∧ WRs K ix A av H xs ws := by
  unfold readT at e
  split at e
  · cases e
    cases h with
    | d h => cases h with | tup h1 h2 => exact ⟨_, _, rfl, h1, .ofD h2⟩
  · cases e
    cases h with | tw h1 h2 => exact ⟨_, _, rfl, h1, h2⟩
  · cases e
end
section
variable {K : Fg} {U ix : List Addr} {A : List (Option Addr)} {H : Hp} {ix' : List Addr} {A' : List (Option Addr)} {H' : Hp} {σ : L2.St} {s : S}
theorem readL_ok {v : V} {w : W} {ws : List W} (r : Rel K U ix A σ H s) (h : WR K ix A (avo U ix A) H v w) (e : readL s w = some ws) : ∃ a xs, v = .ref a ∧ H a = some (.lst xs) ∧ WRs K ix A (avo U ix A) H xs ws := by
  cases h with
  | @d v x h =>
    cases h with
    | lst h1 h2 h3 => simp only [readL, Option.some.injEq] at e; subst e; exact ⟨_, _, rfl, h1, .ofD h3⟩
    | non => cases e
    | bl => cases e
    | int => cases e
    | str => cases e
    | tup => cases e
  | @ref n a h =>
    unfold readL at e
    simp only at e
    cases q : s.m[n]? with
    | none => rw [q] at e; cases e
    | some b =>
      rw [q] at e
      have hb := r.mem.box n b a q h
      cases b with
      | lst ws' =>
        cases e
        obtain ⟨xs, h1, h2⟩ := hb
        exact ⟨_, xs, rfl, h1, WRs.lift _ _ h2⟩
      | dct _ => cases e
      | ins _ _ => cases e
      | tbl _ _ => cases e
  | @own i a h =>
    unfold readL at e
    simp only at e
    cases q : s.sl[i]? with
    | none => rw [q] at e; cases e
    | some b =>
      rw [q] at e
      obtain ⟨o, oa, h1, h2, hb⟩ := r.slo.get q
      rw [h] at h2
      cases h2
      cases b with
      | own ws' =>
        cases e
        obtain ⟨a', xs, e1, _, h1, h2⟩ := hb
        cases e1
        exact ⟨_, xs, rfl, h1, WRs.lift _ _ h2⟩
      | no => cases e
      | v _ => cases e
  | scr h => cases e
  | adr => cases e
  | tw h1 h2 => cases e
  | lw h1 h2 h3 => cases e; exact ⟨_, _, rfl, h1, h3⟩
theorem toD_ok {v : V} {w : W} {d : PyData} (r : Rel K U ix A σ H s) (h : WR K ix A (avo U ix A) H v w) (e : toD s w = some d) : Dp K H v d := by
  unfold toD at e
  split at e
  · cases e
    cases h with | d h => exact DR.dp _ _ h
  · split at e
    · rename_i ws q
      obtain ⟨a, xs, rfl, h1, h2⟩ := readL_ok r h q
      cases q2 : allD ws with
      | none => rw [q2] at e; cases e
      | some ds =>
        rw [q2] at e
        cases e
        exact .lst (SqL.of h1) (DRs.dp _ _ (allD_ok q2 h2))
    · cases e
theorem wrL_ok {v : V} {w : W} {ws ws' : List W} {s' : S} {a : Addr} {xs : List V} (r : Rel K U ix A σ H s) (h : WR K ix A (avo U ix A) H (.ref a) w) (e : wrL s w ws' = some s') (f : Fr [a] H H') (hx : H' a = some (.lst xs))
    (hw : WRs K ix [] (avo U ix A) H' xs ws') : Rel K U ix A σ H' s' ∧ Ext ix A H ix A H' := by
  cases h with
  | ref h => cases e; exact r.put h f ⟨xs, hx, hw⟩
  | own h => cases e; exact r.putOwn h f hx hw
  | d h => cases e
  | scr h => cases e
  | adr => cases e
  | tw h1 h2 => cases e
  | lw h1 h2 h3 => cases e
/-! slots -/
theorem ow_none : ∀ (A : List (Option Addr)) (i : Nat), (ow (A.set i none)).Sublist (ow A)
  | [], _ => .slnil
  | none :: A, 0 => .refl _
  | some a :: A, 0 => .cons _ (.refl _)
  | none :: A, i + 1 => ow_none A i
  | some a :: A, i + 1 => .cons_cons _ (ow_none A i)
theorem ow_some {p : Addr} : ∀ (A : List (Option Addr)) (i : Nat) (b : Addr), b ∈ ow (A.set i (some p)) → b = p ∨ b ∈ ow A
  | [], _, _, h => .inr h
  | o :: A, 0, b, h => by
    rcases List.mem_cons.mp (show b ∈ p :: ow A from h) with q | q
    · exact .inl q
    · refine .inr ?_
      cases o with
      | none => exact q
      | some c => exact List.mem_cons_of_mem _ q
  | o :: A, i + 1, b, h => by
    cases o with
    | none => exact ow_some A i b h
    | some c =>
      rcases List.mem_cons.mp (show b ∈ c :: ow (A.set i (some p)) from h) with h | h
      · exact .inr (h ▸ List.mem_cons_self)
      · rcases ow_some A i b h with h | h
        · exact .inl h
        · exact .inr (List.mem_cons_of_mem _ h)
theorem ow_nd {p : Addr} : ∀ (A : List (Option Addr)) (i : Nat), (ow A).Nodup → p ∉ ow A → (ow (A.set i (some p))).Nodup
  | [], _, n, _ => n
  | o :: A, 0, n, h => by
    refine List.nodup_cons.mpr ⟨fun z => h ?_, ?_⟩
    · cases o with
      | none => exact z
      | some c => exact List.mem_cons_of_mem _ z
    · cases o with
      | none => exact n
      | some c => exact (List.nodup_cons.mp (show (c :: ow A).Nodup from n)).2
  | none :: A, i + 1, n, h => ow_nd A i n h
  | some c :: A, i + 1, n, h => by
    have n' := List.nodup_cons.mp (show (c :: ow A).Nodup from n)
    have h' : p ≠ c ∧ p ∉ ow A := by
      have : p ∉ c :: ow A := h
      exact ⟨fun z => this (z ▸ List.mem_cons_self), fun z => this (List.mem_cons_of_mem _ z)⟩
    refine List.nodup_cons.mpr ⟨fun z => ?_, ow_nd A i n'.2 h'.2⟩
    rcases ow_some A i c z with q | q
    · exact h'.1 q.symm
    · exact n'.1 q
theorem Ext.slots {B : List (Option Addr)} (h : ∀ a ∈ ow B, a ∈ ow A) : Ext ix A H ix B H := ⟨fun _ _ h => h, fun a q => .inl (by
  rcases List.mem_append.mp q with q | q
  · exact List.mem_append_left _ q
  · exact List.mem_append_right _ (h a q)), .refl _ _⟩
theorem Rel.setV (r : Rel K U ix A σ H s) (i : Nat) {v : V} {w : W} (hw : WR K ix [] (avo U ix A) H v w) :
    Rel K U ix (A.set i none) (σ.set i (some v)) H { s with sl := s.sl.set i (.v w) } ∧ Ext ix A H ix (A.set i none) H := by
  have sub : ∀ a ∈ ow (A.set i none), a ∈ ow A := fun a h => (ow_none A i).subset h
  have x : Ext ix A H ix (A.set i none) H := .slots sub
  have t : Tr K ix (avo U ix A) H ix (avo U ix (A.set i none)) H := x.tr
  refine ⟨⟨⟨r.mem.len, fun k b' c h1 h2 => BR.tr t (fun o h => h) (r.mem.box k b' c h1 h2)⟩, ?_, ?_, fun u hu => ⟨fun z => (r.un u hu).1 ?_, (r.un u hu).2⟩⟩, x⟩
  · refine .of (by simp only [List.length_set]; exact r.slo.len.1) (by simp only [List.length_set]; exact r.slo.len.2) fun j o oa sl h1 h2 h3 => ?_
    by_cases e : j = i
    · subst e
      have hl : j < s.sl.length := by
        have := (List.getElem?_eq_some_iff.mp h3).1
        simpa using this
      have hl1 := r.slo.len.1
      have hl2 := r.slo.len.2
      rw [List.getElem?_set_self (by omega)] at h1 h2 h3
      cases h1
      cases h2
      cases h3
      exact ⟨rfl, v, rfl, WR.tr t _ _ hw⟩
    · rw [List.getElem?_set_ne (Ne.symm e)] at h1 h2 h3
      obtain ⟨o', oa', e1, e2, h⟩ := r.slo.get h3
      rw [h1] at e1
      rw [h2] at e2
      cases e1
      cases e2
      exact SR.tr t (fun c hc u hu => hu) h
  · have h := List.nodup_append.mp r.nd
    exact List.nodup_append.mpr ⟨h.1, h.2.1.sublist (ow_none A i), fun a ha b hb => h.2.2 a ha b (sub b hb)⟩
  · rcases List.mem_append.mp z with z | z
    · exact List.mem_append_left _ z
    · exact List.mem_append_right _ (sub _ z)
theorem Rel.setOwn {p : Addr} {xs : List V} {ws : List W} (r : Rel K (p :: U) ix A σ H s) (nu : p ∉ U) (i : Nat) (hp : H p = some (.lst xs)) (hw : WRs K ix [] (avo (p :: U) ix A) H xs ws) :
    Rel K U ix (A.set i (some p)) (σ.set i (some (.ref p))) H { s with sl := s.sl.set i (.own ws) } := by
  have np := (r.un p List.mem_cons_self).1
  have np1 : p ∉ ix := fun z => np (List.mem_append_left _ z)
  have np2 : p ∉ ow A := fun z => np (List.mem_append_right _ z)
  have hnd := List.nodup_append.mp r.nd
  have t : Tr K ix (avo (p :: U) ix A) H ix (avo U ix (A.set i (some p))) H := ⟨fun _ _ h => h, fun a xs h n => ⟨h, fun z => n (by
    rcases List.mem_append.mp z with z | z
    · exact List.mem_append_left _ (List.mem_cons_of_mem _ z)
    · rcases List.mem_append.mp z with z | z
      · exact List.mem_append_right _ (List.mem_append_left _ z)
      · rcases ow_some A i a z with z | z
        · rw [z]
          exact List.mem_append_left _ List.mem_cons_self
        · exact List.mem_append_right _ (List.mem_append_right _ z))⟩, fun a xs h => h, fun a o u h => h, fun a φ h => h⟩
  refine ⟨⟨r.mem.len, fun k b' c h1 h2 => BR.tr t (fun o h => h) (r.mem.box k b' c h1 h2)⟩, ?_, ?_, fun u hu => ⟨fun z => ?_, (r.un u (List.mem_cons_of_mem _ hu)).2⟩⟩
  · refine .of (by simp only [List.length_set]; exact r.slo.len.1) (by simp only [List.length_set]; exact r.slo.len.2) fun j o oa sl h1 h2 h3 => ?_
    by_cases e : j = i
    · subst e
      have hl : j < s.sl.length := by
        have := (List.getElem?_eq_some_iff.mp h3).1
        simpa using this
      have hl1 := r.slo.len.1
      have hl2 := r.slo.len.2
      rw [List.getElem?_set_self (by omega)] at h1 h2 h3
      cases h1
      cases h2
      cases h3
      exact ⟨p, xs, rfl, rfl, hp, WRs.tr t _ _ hw⟩
    · rw [List.getElem?_set_ne (Ne.symm e)] at h1 h2 h3
      obtain ⟨o', oa', e1, e2, h⟩ := r.slo.get h3
      rw [h1] at e1
      rw [h2] at e2
      cases e1
      cases e2
      exact SR.tr t (fun c hc u hu => hu) h
  · exact List.nodup_append.mpr ⟨hnd.1, ow_nd A i hnd.2.1 np2, fun a ha b hb z => by
      subst z
      rcases ow_some A i a hb with q | q
      · exact np1 (q ▸ ha)
      · exact hnd.2.2 a ha a q rfl⟩
  · have hu' := (r.un u (List.mem_cons_of_mem _ hu)).1
    rcases List.mem_append.mp z with z | z
    · exact hu' (List.mem_append_left _ z)
    · rcases ow_some A i u z with z | z
      · subst z
        exact nu hu
      · exact hu' (List.mem_append_right _ z)
/-- a slot's own list becomes a value like others -/
theorem Rel.frz (r : Rel K U ix A σ H s) {i : Nat} {ws : List W} (e : s.sl[i]? = some (.own ws)) : Rel K U ix (A.set i none) σ H { s with sl := s.sl.set i (.v (mkL ws)) } ∧ Ext ix A H ix (A.set i none) H := by
  obtain ⟨o, oa, h1, h2, h⟩ := r.slo.get e
  obtain ⟨a, xs, ea, eo, hx, hw⟩ := h
  subst ea eo
  have hnd := List.nodup_append.mp r.nd
  have sub : ∀ a ∈ ow (A.set i none), a ∈ ow A := fun a h => (ow_none A i).subset h
  have na : a ∉ avo U ix (A.set i none) := fun z => by
    rcases List.mem_append.mp z with z | z
    · exact (r.un a z).1 (List.mem_append_right _ (ow_get h2))
    · rcases List.mem_append.mp z with z | z
      · exact r.disj z (ow_get h2)
      · obtain ⟨j, hj⟩ := List.getElem?_of_mem (ow_mem.mp z)
        by_cases e : j = i
        · subst e
          have hl : j < A.length := (List.getElem?_eq_some_iff.mp h2).1
          rw [List.getElem?_set_self hl] at hj
          cases hj
        · rw [List.getElem?_set_ne (Ne.symm e)] at hj
          exact e (ow_inj hnd.2.1 hj h2)
  have x : Ext ix A H ix (A.set i none) H := .slots sub
  have t : Tr K ix (avo U ix A) H ix (avo U ix (A.set i none)) H := x.tr
  have hv : WR K ix [] (avo U ix (A.set i none)) H (.ref a) (mkL ws) := .mkL hx na (WRs.tr t _ _ hw)
  have r2 := (r.setV i (v := .non) (w := .d .none) (.d .non)).1
  refine ⟨⟨r2.mem, ?_, r2.nd, r2.un⟩, x⟩
  refine .of (by simp only [List.length_set]; exact r.slo.len.1) (by simp only [List.length_set]; exact r.slo.len.2) fun j o oa sl h1' h2' h3' => ?_
  by_cases e' : j = i
  · subst e'
    have hl : j < s.sl.length := (List.getElem?_eq_some_iff.mp e).1
    have hl2 := r.slo.len.2
    rw [List.getElem?_set_self (by omega)] at h2' h3'
    cases h2'
    cases h3'
    rw [h1] at h1'
    cases h1'
    exact ⟨rfl, _, rfl, hv⟩
  · rw [List.getElem?_set_ne (Ne.symm e')] at h2' h3'
    obtain ⟨o', oa', e1, e2, h⟩ := r.slo.get h3'
    rw [h1'] at e1
    rw [h2'] at e2
    cases e1
    cases e2
    exact SR.tr t (fun c hc u hu => hu) h
/-- a new object becomes a box -/
theorem Rel.box {p : Addr} {b : B} (r : Rel K (p :: U) ix A σ H s) (nu : p ∉ U) (hb : BR K ix (avo (p :: U) ix A) H p b) (ho : ∃ o, H p = some o) : Rel K U (ix ++ [p]) A σ H { s with m := s.m ++ [b] } := by
  have np := (r.un p List.mem_cons_self).1
  have np1 : p ∉ ix := fun z => np (List.mem_append_left _ z)
  have np2 : p ∉ ow A := fun z => np (List.mem_append_right _ z)
  have hnd := List.nodup_append.mp r.nd
  have t : Tr K ix (avo (p :: U) ix A) H (ix ++ [p]) (avo U (ix ++ [p]) A) H := ⟨fun n a h => by
    rw [List.getElem?_append_left (List.getElem?_eq_some_iff.mp h).1]
    exact h, fun a xs h n => ⟨h, fun z => n (by
    rcases List.mem_append.mp z with z | z
    · exact List.mem_append_left _ (List.mem_cons_of_mem _ z)
    · rcases List.mem_append.mp z with z | z
      · rcases List.mem_append.mp z with z | z
        · exact List.mem_append_right _ (List.mem_append_left _ z)
        · have : a = p := by simpa using z
          rw [this]
          exact List.mem_append_left _ List.mem_cons_self
      · exact List.mem_append_right _ (List.mem_append_right _ z))⟩, fun a xs h => h, fun a o u h => h, fun a φ h => h⟩
  refine ⟨⟨by simp [r.mem.len], fun k b' c h1 h2 => ?_⟩, .of r.slo.len.1 r.slo.len.2 fun i o oa sl h1 h2 h3 => ?_, ?_, fun u hu => ?_⟩
  · by_cases hk : k < ix.length
    · rw [List.getElem?_append_left hk] at h2
      rw [List.getElem?_append_left (by rw [← r.mem.len]; exact hk)] at h1
      exact BR.tr t (fun o h => h) (r.mem.box k b' c h1 h2)
    · have hlt := (List.getElem?_eq_some_iff.mp h2).1
      have hk' : k = ix.length := by
        rw [List.length_append] at hlt
        have : ([p] : List Addr).length = 1 := rfl
        omega
      subst hk'
      rw [List.getElem?_append_right (Nat.le_refl _), Nat.sub_self] at h2
      rw [r.mem.len, List.getElem?_append_right (Nat.le_refl _), Nat.sub_self] at h1
      cases h1
      cases h2
      exact BR.tr t (fun o h => h) hb
  · obtain ⟨o', oa', e1, e2, h⟩ := r.slo.get h3
    rw [h1] at e1
    rw [h2] at e2
    cases e1
    cases e2
    exact SR.tr t (fun c hc u hu => hu) h
  · refine List.nodup_append.mpr ⟨List.nodup_append.mpr ⟨hnd.1, by simp, fun a ha b hb => ?_⟩, hnd.2.1, fun a ha b hb => ?_⟩
    · have : b = p := by simpa using hb
      rw [this]
      exact fun z => np1 (z ▸ ha)
    · rcases List.mem_append.mp ha with q | q
      · exact hnd.2.2 a q b hb
      · have : a = p := by simpa using q
        rw [this]
        exact fun z => np2 (z ▸ hb)
  · have hu' := (r.un u (List.mem_cons_of_mem _ hu))
    refine ⟨fun z => ?_, hu'.2⟩
    rcases List.mem_append.mp z with z | z
    · rcases List.mem_append.mp z with z | z
      · exact hu'.1 (List.mem_append_left _ z)
      · have : u = p := by simpa using z
        exact nu (this ▸ hu)
    · exact hu'.1 (List.mem_append_right _ z)
theorem Ext.box {p : Addr} (x : Ext ix A H ix' A H') (hp : vis H p = none) : Ext ix A H (ix' ++ [p]) A H' := ⟨fun n a h => by
    have := x.pre n a h
    rw [List.getElem?_append_left (List.getElem?_eq_some_iff.mp this).1]
    exact this, fun a h => by
    rcases List.mem_append.mp h with h | h
    · rcases List.mem_append.mp h with h | h
      · exact x.new a (List.mem_append_left _ h)
      · have : a = p := by simpa using h
        exact .inr (this ▸ hp)
    · exact x.new a (List.mem_append_right _ h), x.fr⟩
theorem Ext.setOwn {p : Addr} {B : List (Option Addr)} (x : Ext ix A H ix' B H') (hp : vis H p = none) (i : Nat) : Ext ix A H ix' (B.set i (some p)) H' := ⟨x.pre, fun a h => by
    rcases List.mem_append.mp h with h | h
    · exact x.new a (List.mem_append_left _ h)
    · rcases ow_some B i a h with h | h
      · exact .inr (h ▸ hp)
      · exact x.new a (List.mem_append_right _ h), x.fr⟩
end
/-! ### kinds of answers, and what is wanted behind them -/
def ErR (K : Fg) (ix av : List Addr) (H : Hp) (e : Er) (c : Value) (d : Option Addr) : Prop := c = .ref (He.ga K e.c) ∧ match e.f with
  | none => d = none
  | some (x, w) => ∃ p v, d = some p ∧ H p = some (.xd [(x, v)]) ∧ WR K ix [] av H v w
def PostE (K : Fg) (U ix : List Addr) (A : List (Option Addr)) (H : Hp) (E : XK) (e : Er) (m : M) : Prop := ∀ c d ix' A' H', MR K ix' (avo U ix' A') H' m → ((ix' ++ ow A').Nodup ∧ ∀ u ∈ U, u ∉ ix' ++ ow A') → Ext ix A H ix' A' H' → ErR K ix' (avo U ix' A') H' e c d → E c d H'
structure Kind (K : Fg) (α β : Type) where
  rel : List Addr → List (Option Addr) → L2.St → Hp → List Addr → Hp → S → β → α → Prop
  mono : ∀ {U : List Addr} {A : List (Option Addr)} {σ : L2.St} {ix : List Addr} {H : Hp} {ix1 : List Addr} {H1 : Hp} {ix2 : List Addr} {H2 : Hp} {s : S} {b : β} {a : α}, Ext ix A H ix1 A H1 → Ext ix1 A H1 ix2 A H2 → rel U A σ H1 ix2 H2 s b a → rel U A σ H ix2 H2 s b a
def kW (K : Fg) : Kind K W V := ⟨fun U A _ _ ix H _ v w => WR K ix A (avo U ix A) H v w, fun _ _ h => h⟩
def kA (K : Fg) : Kind K (List W) (List V) := ⟨fun U A _ _ ix H _ v w => WRs K ix A (avo U ix A) H v w, fun _ _ h => h⟩
def kB (K : Fg) : Kind K Bool Bool := ⟨fun _ _ _ _ _ _ _ b a => b = a, fun _ _ h => h⟩
/-- a new list that nobody else speaks of -/
def kL (K : Fg) : Kind K (List W) V := ⟨fun U A σ H0 ix H s v ws => ∃ p xs, v = .ref p ∧ vis H0 p = none ∧ p ∉ U ∧ H p = some (.lst xs) ∧ Rel K (p :: U) ix A σ H s ∧ WRs K ix A (avo (p :: U) ix A) H xs ws, fun x y ⟨p, xs, e, h0, nu, h, r, q⟩ => by
  refine ⟨p, xs, e, x.fr.free h0 fun z => ?_, nu, h, r, q⟩
  refine (r.un p List.mem_cons_self).1 ?_
  rcases List.mem_append.mp z with z | z
  · obtain ⟨n, hn⟩ := List.getElem?_of_mem z
    exact List.mem_append_left _ (List.mem_of_getElem? (y.pre _ _ (x.pre _ _ hn)))
  · exact List.mem_append_right _ z⟩
def Post {K : Fg} {α β : Type} (k : Kind K α β) (U ix : List Addr) (A : List (Option Addr)) (σ : L2.St) (H : Hp) (E : XK) (Q : β → Hp → Prop) : R S α → Prop
  | .no => False
  | .ok a s => ∀ b ix' H', Rel K U ix' A σ H' s → Ext ix A H ix' A H' → k.rel U A σ H ix' H' s b a → Q b H'
  | .er e m => PostE K U ix A H E e m
def PostS (K : Fg) (U ix : List Addr) (A : List (Option Addr)) (H : Hp) (E : XK) (D : Ends) : O → Prop
  | .no => False
  | .nx s => ∀ σ' ix' A' H', Rel K U ix' A' σ' H' s → Ext ix A H ix' A' H' → D.nx σ' H'
  | .bk s => ∀ σ' ix' A' H', Rel K U ix' A' σ' H' s → Ext ix A H ix' A' H' → D.bk σ' H'
  | .ct s => ∀ σ' ix' A' H', Rel K U ix' A' σ' H' s → Ext ix A H ix' A' H' → D.ct σ' H'
  | .rt w s => ∀ v σ' ix' A' H', Rel K U ix' A' σ' H' s → Ext ix A H ix' A' H' → WR K ix' A' (avo U ix' A') H' v w → D.rt v H'
  | .er e m => PostE K U ix A H E e m
def rd {K : Fg} {α β : Type} (k : Kind K α β) (E : XK) (f : S → R S α) : L2.St → Hp → (β → Hp → Prop) → Prop := fun σ H Q => ∃ U ix A s, Rel K U ix A σ H s ∧ Post k U ix A σ H E Q (f s)
def rdS (K : Fg) (E : XK) (g : SF) : TS := fun D σ H => ∃ U ix A s, Rel K U ix A σ H s ∧ PostS K U ix A H E D (g s)
section
variable {K : Fg} {α β γ δ : Type} {k : Kind K α β} {k2 : Kind K γ δ} {U ix : List Addr} {A : List (Option Addr)} {σ : L2.St} {H : Hp} {E : XK} {ix' : List Addr} {A' : List (Option Addr)} {H' : Hp}
theorem PostE.mono {e : Er} {m : M} (x : Ext ix A H ix' A' H') (p : PostE K U ix A H E e m) : PostE K U ix' A' H' E e m := fun c d ix2 A2 H2 r u y z => p c d ix2 A2 H2 r u (x.trans y) z
theorem Post.mono {Q : β → Hp → Prop} {r : R S α} (x : Ext ix A H ix' A H') (p : Post k U ix A σ H E Q r) : Post k U ix' A σ H' E Q r := by
  cases r with
  | no => exact p
  | ok a s => exact fun b ix2 H2 r y z => p b ix2 H2 r (x.trans y) (k.mono x y z)
  | er e m => exact PostE.mono x p
theorem PostS.mono {D : Ends} {o : O} (x : Ext ix A H ix' A' H') (p : PostS K U ix A H E D o) : PostS K U ix' A' H' E D o := by
  cases o with
  | no => exact p
  | nx s => exact fun σ2 ix2 A2 H2 r y => p σ2 ix2 A2 H2 r (x.trans y)
  | bk s => exact fun σ2 ix2 A2 H2 r y => p σ2 ix2 A2 H2 r (x.trans y)
  | ct s => exact fun σ2 ix2 A2 H2 r y => p σ2 ix2 A2 H2 r (x.trans y)
  | rt w s => exact fun v σ2 ix2 A2 H2 r y z => p v σ2 ix2 A2 H2 r (x.trans y) z
  | er e m => exact PostE.mono x p
theorem Post.bind {Q : δ → Hp → Prop} {Q1 : β → Hp → Prop} {r : R S α} {f : α → S → R S γ} (p : Post k2 U ix A σ H E Q (r.bind f))
    (h : ∀ a s b ix' H', Rel K U ix' A σ H' s → Ext ix A H ix' A H' → k.rel U A σ H ix' H' s b a → Post k2 U ix' A σ H' E Q (f a s) → Q1 b H') : Post k U ix A σ H E Q1 r := by
  cases r with
  | no => exact p
  | ok a s => exact fun b ix2 H2 r y z => h a s b ix2 H2 r y z (Post.mono y p)
  | er e m => exact p
def bindO {σ α : Type} (r : R σ α) (f : α → σ → O) : O := match r with
  | .no => .no
  | .ok a s => f a s
  | .er e m => .er e m
theorem PostS.bind {D : Ends} {Q1 : β → Hp → Prop} {r : R S α} {f : α → S → O} (p : PostS K U ix A H E D (bindO r f))
    (h : ∀ a s b ix' H', Rel K U ix' A σ H' s → Ext ix A H ix' A H' → k.rel U A σ H ix' H' s b a → PostS K U ix' A H' E D (f a s) → Q1 b H') : Post k U ix A σ H E Q1 r := by
  cases r with
  | no => exact p
  | ok a s => exact fun b ix2 H2 r y z => h a s b ix2 H2 r y z (PostS.mono y p)
  | er e m => exact p
end
end FE

/-! FE3: the rules of expressions. -/
namespace FE
open PySem PySem.Spec PyProof.Rows L2 KR
section
variable {K : Fg} {α β : Type} {k : Kind K α β} {U ix : List Addr} {A : List (Option Addr)} {σ : L2.St} {H : Hp} {E : XK} {s : S}
theorem Post.done {Q : β → Hp → Prop} {a : α} {b : β} (p : Post k U ix A σ H E Q (.ok a s)) (r : Rel K U ix A σ H s) (z : k.rel U A σ H ix H s b a) : Q b H := p b ix H r .refl z
/-- new objects alone -/
theorem Post.done0 {H' : Hp} {Q : β → Hp → Prop} {a : α} {b : β} (p : Post k U ix A σ H E Q (.ok a s)) (r : Rel K U ix A σ H s) (f : Fr [] H H') (z : k.rel U A σ H ix H' s b a) : Q b H' := p b ix H' (r.tr0 f) (.of0 f) z
theorem tr0 {H' : Hp} (f : Fr [] H H') : Tr K ix (avo U ix A) H ix (avo U ix A) H' := (Ext.of0 f).tr
theorem trs {A' : List (Option Addr)} {ix' : List Addr} {av av' : List Addr} (p : ∀ (n : Nat) (a : Addr), ix[n]? = some a → ix'[n]? = some a) (h : ∀ a ∈ av', a ∈ av) : Tr K ix av H ix' av' H := ⟨p, fun a xs q n => ⟨q, fun z => n (h a z)⟩, fun _ _ h => h, fun _ _ _ h => h, fun _ _ h => h⟩
theorem trU {p : Addr} : Tr K ix (avo (p :: U) ix A) H ix (avo U ix A) H := trs (A' := A) (fun _ _ h => h) fun _ h => List.mem_cons_of_mem _ h
theorem trRes {H' : Hp} {p : Addr} (f : Fr [] H H') (hp : H p = none) : Tr K ix (avo U ix A) H ix (avo (p :: U) ix A) H' := ⟨fun _ _ h => h, fun a xs h n => ⟨f.at0 h, fun z => by
    rcases List.mem_cons.mp (show a ∈ p :: (U ++ (ix ++ ow A)) from z) with e | e
    · subst e
      rw [hp] at h
      cases h
    · exact n e⟩, fun a xs h => f.sqt h, fun a o u h => f.frz h, fun a φ h => f.ext h⟩
/-- a new list has come -/
theorem Post.newL {Q : VK} {ws : List W} {xs : List V} (p : Post (kL K) U ix A σ H E Q (.ok ws s)) (r : Rel K U ix A σ H s) (h : WRs K ix A (avo U ix A) H xs ws) : NewL xs Q H := fun a H' hn f ha => by
  refine p (.ref a) ix H' (r.tr0 f) (.of0 f) ⟨a, xs, rfl, vis_none hn, fun z => ?_, ha, r.res hn f ha, WRs.tr (trRes f hn) _ _ h⟩
  obtain ⟨o, q⟩ := (r.un a z).2
  rw [vis_none hn] at q
  cases q
theorem Post.newT {Q : VK} {ws : List W} {xs : List V} (p : Post (kW K) U ix A σ H E Q (.ok (mkT ws) s)) (r : Rel K U ix A σ H s) (h : WRs K ix A (avo U ix A) H xs ws) : NewT K xs Q H := fun a H' f ha =>
  p (.ref a) ix H' (r.tr0 f) (.of0 f) (.mkT ha (WRs.tr (tr0 f) _ _ h))
end
/-! ### names, constants -/
def eV (i : Nat) (s : S) : R S W := match s.sl[i]? with
  | some (.v w) => .ok w s
  | some (.own _) => .ok (.own i) s
  | _ => .no
def eC (d : PyData) (s : S) : R S W := .ok (.d d) s
section
variable {X : Cx} {K : Fg} {E : XK} {pos : Pos}
theorem f_v (i : Nat) {x : Str} (h : PE X (.Name x pos) (tVar i)) : PE X (.Name x pos) (rd (kW K) E (eV i)) := imp_te h fun σ H Q ⟨U, ix, A, s, r, p⟩ => by
  unfold eV at p
  split at p
  · rename_i w e
    obtain ⟨o, oa, h1, h2, h⟩ := r.slo.get e
    obtain ⟨_, v, rfl, hw⟩ := h
    exact ⟨v, h1, p.done r (WR.lift _ _ hw)⟩
  · rename_i ws e
    obtain ⟨o, oa, h1, h2, h⟩ := r.slo.get e
    obtain ⟨a, xs, rfl, rfl, _, _⟩ := h
    exact ⟨_, h1, p.done r (.own h2)⟩
  · exact p.elim
theorem f_c {e : Expr} {v : V} {d : PyData} (h : PE X e (tC v)) (hd : ∀ av H, DR K av H v d) : PE X e (rd (kW K) E (eC d)) := imp_te h fun σ H Q ⟨U, ix, A, s, r, p⟩ => p.done r (.d (hd _ _))
theorem f_int {i : Int} {j} : PE X (.Constant (.int i) j pos) (rd (kW K) E (eC (.int i))) := f_c pe_int fun _ _ => .int _
theorem f_str {i : Str} {j} : PE X (.Constant (.str i) j pos) (rd (kW K) E (eC (.str i))) := f_c pe_str fun _ _ => .str _
theorem f_bl {i : Bool} {j} : PE X (.Constant (.bool i) j pos) (rd (kW K) E (eC (.bool i))) := f_c pe_bl fun _ _ => .bl _
theorem f_non {j} : PE X (.Constant .none j pos) (rd (kW K) E (eC .none)) := f_c pe_non fun _ _ => .non
theorem f_gint {x : Str} {i : Int} (hg : Gl X x) (h : ∃ t, X.mg x = some (.int i t)) (hd : (x == ("__debug__" : Str)) = false := by decide) : PE X (.Name x pos) (rd (kW K) E (eC (.int i))) := f_c (pe_gint hg h hd) fun _ _ => .int _
theorem f_gstr {x z : Str} (hg : Gl X x) (h : ∃ t, X.mg x = some (.str z t)) (hd : (x == ("__debug__" : Str)) = false := by decide) : PE X (.Name x pos) (rd (kW K) E (eC (.str z))) := f_c (pe_gstr hg h hd) fun _ _ => .str _
theorem strs_dr {av : List Addr} {H : Hp} : ∀ ss : List Str, DRs K av H (ss.map V.str) (ss.map PyData.str)
  | [] => .nil
  | s :: ss => .cons (.str s) (strs_dr ss)
theorem f_gtup {x : Str} {a : Addr} {ss : List Str} (hg : Gl X x) (h : X.mg x = some (.ref a)) (ht : ∀ H, SqT K H a (ss.map V.str)) (hd : (x == ("__debug__" : Str)) = false := by decide) : PE X (.Name x pos) (rd (kW K) E (eC (.tuple (ss.map .str)))) :=
  f_c (pe_gref hg h hd) fun _ H => .tup (ht H) (strs_dr ss)
end
/-! ### operators, by values -/
def rdO {K : Fg} {α : Type} (k : Kind K α V) (E : XK) (f : W → W → S → R S α) : R2 := fun x y H Q => ∃ U ix A σ s a b, Rel K U ix A σ H s ∧ WR K ix A (avo U ix A) H x a ∧ WR K ix A (avo U ix A) H y b ∧ Post k U ix A σ H E Q (f a b s)
def eBin {α : Type} (o : W → W → S → R S α) (f g : EF) (s : S) : R S α := (f s).bind fun a s => (g s).bind fun b s => o a b s
section
variable {X : Cx} {K : Fg} {E : XK} {pos : Pos} {α : Type} {k : Kind K α V} {a b c : Expr} {f g h : EF} {o o2 : W → W → S → R S α}
theorem bin_imp {σ : L2.St} {H : Hp} {Q : VK} (q : rd k E (eBin o f g) σ H Q) : tOp (rdO k E o) (rd (kW K) E f) (rd (kW K) E g) σ H Q := by
  obtain ⟨U, ix, A, s, r, p⟩ := q
  refine ⟨U, ix, A, s, r, Post.bind p fun a s1 x ix1 H1 r1 x1 z1 p1 => ?_⟩
  refine ⟨U, ix1, A, s1, r1, Post.bind p1 fun b s2 y ix2 H2 r2 x2 z2 p2 => ?_⟩
  exact ⟨U, ix2, A, σ, s2, a, b, r2, WR.tr x2.tr _ _ z1, z2, p2⟩
theorem f_bin {op : Operator} (ho : OpR X (binaryOp op) (rdO k E o)) (ha : PE X a (rd (kW K) E f)) (hb : PE X b (rd (kW K) E g)) : PE X (.BinOp a op b pos) (rd k E (eBin o f g)) := imp_te (pe_op ho ha hb) fun _ _ _ q => bin_imp q
theorem f_cmp {op : CmpOp} (ho : OpR X (compareOp op) (rdO k E o)) (ha : PE X a (rd (kW K) E f)) (hb : PE X b (rd (kW K) E g)) (hm : behindInMarks op b = false) : PE X (.Compare a [op] [b] pos) (rd k E (eBin o f g)) := imp_te (pe_cmpR ho ha hb hm) fun _ _ _ q => bin_imp q
theorem f_ix (ho : IxR X (rdO k E o)) (ha : PE X a (rd (kW K) E f)) (hb : PE X b (rd (kW K) E g)) (hm : PlainIx b) : PE X (.Subscript a b pos) (rd k E (eBin o f g)) := imp_te (pe_ix ho ha hb hm) fun _ _ _ q => bin_imp q
end
/-- a op b op2 c -/
def eChain (o o2 : W → W → S → R S W) (f g h : EF) (s : S) : R S W := (f s).bind fun a s => (g s).bind fun b s => (o a b s).bind fun w s => match w with
  | .d (.bool true) => (h s).bind fun c s => o2 b c s
  | .d (.bool false) => .ok (.d (.bool false)) s
  | _ => .no
def rdU {K : Fg} {α : Type} (k : Kind K α V) (E : XK) (f : W → S → R S α) : V → Hp → VK → Prop := fun x H Q => ∃ U ix A σ s a, Rel K U ix A σ H s ∧ WR K ix A (avo U ix A) H x a ∧ Post k U ix A σ H E Q (f a s)
def eUn {α : Type} (o : W → S → R S α) (f : EF) (s : S) : R S α := (f s).bind fun a s => o a s
def eNot (w : W) (s : S) : R S W := match w with
  | .d (.bool b) => .ok (.d (.bool (!b))) s
  | _ => .no
def eAnd (f g : EF) (s : S) : R S W := (f s).bind fun a s => match a with
  | .d (.bool true) => g s
  | .d (.bool false) => .ok (.d (.bool false)) s
  | _ => .no
def eOr (f g : EF) (s : S) : R S W := (f s).bind fun a s => match a with
  | .d (.bool false) => g s
  | .d (.bool true) => .ok (.d (.bool true)) s
  | _ => .no
def cB (f : EF) (s : S) : R S Bool := (f s).bind fun a s => match a with
  | .d (.bool b) => .ok b s
  | _ => .no
def cNot (f : S → R S Bool) (s : S) : R S Bool := (f s).bind fun b s => .ok (!b) s
def cAnd (f g : S → R S Bool) (s : S) : R S Bool := (f s).bind fun b s => if b = true then g s else .ok false s
def cOr (f g : S → R S Bool) (s : S) : R S Bool := (f s).bind fun b s => if b = true then .ok true s else g s
def eIf (c : S → R S Bool) (f g : EF) (s : S) : R S W := (c s).bind fun b s => if b = true then f s else g s
def aNil (s : S) : R S (List W) := .ok [] s
def aCons (f : EF) (g : LF) (s : S) : R S (List W) := (f s).bind fun a s => (g s).bind fun r s => .ok (a :: r) s
def eTup (f : LF) (s : S) : R S W := (f s).bind fun ws s => if ws.length ≤ 1000000 then .ok (mkT ws) s else .no
def eLst (f : LF) (s : S) : R S (List W) := (f s).bind fun ws s => if ws.length ≤ 1000000 then .ok ws s else .no
def eF (f : LF) (s : S) : R S W := (f s).bind fun ws s => .ok (mkL ws) s
def eBx (f : LF) (s : S) : R S W := (f s).bind fun ws s => if frees ws = true then .ok (.ref s.m.length) { s with m := s.m ++ [.lst ws] } else .no
section
variable {X : Cx} {K : Fg} {E : XK} {pos : Pos} {a b c : Expr} {f g h : EF} {o o2 : W → W → S → R S W}
theorem chain_imp {σ : L2.St} {H : Hp} {Q : VK} (q : rd (kW K) E (eChain o o2 f g h) σ H Q) : tChain (rdO (kW K) E o) (rdO (kW K) E o2) (rd (kW K) E f) (rd (kW K) E g) (rd (kW K) E h) σ H Q := by
  obtain ⟨U, ix, A, s, r, p⟩ := q
  refine ⟨U, ix, A, s, r, Post.bind p fun a s1 x ix1 H1 r1 x1 z1 p1 => ?_⟩
  refine ⟨U, ix1, A, s1, r1, Post.bind p1 fun b s2 y ix2 H2 r2 x2 z2 p2 => ?_⟩
  refine ⟨U, ix2, A, σ, s2, a, b, r2, WR.tr x2.tr _ _ z1, z2, Post.bind p2 fun w s3 z ix3 H3 r3 x3 z3 p3 => ?_⟩
  split at p3
  · refine ⟨true, WR.bl z3, ?_⟩
    rw [if_pos rfl]
    refine ⟨U, ix3, A, s3, r3, Post.bind p3 fun c s4 u ix4 H4 r4 x4 z4 p4 => ?_⟩
    exact ⟨U, ix4, A, σ, s4, b, c, r4, WR.tr (x3.trans x4).tr _ _ z2, z4, p4⟩
  · refine ⟨false, WR.bl z3, ?_⟩
    rw [if_neg Bool.false_ne_true]
    exact p3.done r3 (.mkB false)
  · exact p3.elim
theorem f_chain {op op' : CmpOp} (ho : OpR X (compareOp op) (rdO (kW K) E o)) (ho' : OpR X (compareOp op') (rdO (kW K) E o2)) (ha : PE X a (rd (kW K) E f)) (hb : PE X b (rd (kW K) E g)) (hc : PE X c (rd (kW K) E h))
    (hm : lastMarks [op, op'] [b, c] = false := by with_unfolding_all rfl) : PE X (.Compare a [op, op'] [b, c] pos) (rd (kW K) E (eChain o o2 f g h)) := imp_te (pe_chain ho ho' ha hb hc hm) fun _ _ _ q => chain_imp q
theorem f_un {α : Type} {k : Kind K α V} {op : UnaryOp} {u : W → S → R S α} (ho : UnR X (unaryOp op) (rdU k E u)) (ha : PE X a (rd (kW K) E f)) : PE X (.UnaryOp op a pos) (rd k E (eUn u f)) := imp_te (pe_un ho ha) fun σ H Q ⟨U, ix, A, s, r, p⟩ =>
  ⟨U, ix, A, s, r, Post.bind p fun a s1 x ix1 H1 r1 x1 z1 p1 => ⟨U, ix1, A, σ, s1, a, r1, z1, p1⟩⟩
theorem f_not (ha : PE X a (rd (kW K) E f)) : PE X (.UnaryOp .Not a pos) (rd (kW K) E (eUn eNot f)) := imp_te (pe_not ha) fun σ H Q ⟨U, ix, A, s, r, p⟩ =>
  ⟨U, ix, A, s, r, Post.bind p fun a s1 x ix1 H1 r1 x1 z1 p1 => by
    unfold eNot at p1
    split at p1
    · exact ⟨_, WR.bl z1, p1.done r1 (.mkB _)⟩
    · exact p1.elim⟩
theorem f_one {op} {α : Type} {k : Kind K α V} {f : S → R S α} (h : PE X a (rd k E f)) : PE X (.BoolOp op [a] pos) (rd k E f) := pe_one h
theorem f_and {rest : List Expr} (ha : PE X a (rd (kW K) E f)) (hb : PE X (.BoolOp .And (b :: rest) pos) (rd (kW K) E g)) : PE X (.BoolOp .And (a :: b :: rest) pos) (rd (kW K) E (eAnd f g)) := imp_te (pe_and ha hb) fun σ H Q ⟨U, ix, A, s, r, p⟩ =>
  ⟨U, ix, A, s, r, Post.bind p fun a s1 x ix1 H1 r1 x1 z1 p1 => by
    split at p1
    · refine ⟨true, WR.bl z1, ?_⟩
      rw [if_pos rfl]
      exact ⟨U, ix1, A, s1, r1, p1⟩
    · refine ⟨false, WR.bl z1, ?_⟩
      rw [if_neg Bool.false_ne_true]
      exact p1.done r1 (.mkB _)
    · exact p1.elim⟩
theorem f_or {rest : List Expr} (ha : PE X a (rd (kW K) E f)) (hb : PE X (.BoolOp .Or (b :: rest) pos) (rd (kW K) E g)) : PE X (.BoolOp .Or (a :: b :: rest) pos) (rd (kW K) E (eOr f g)) := imp_te (pe_or ha hb) fun σ H Q ⟨U, ix, A, s, r, p⟩ =>
  ⟨U, ix, A, s, r, Post.bind p fun a s1 x ix1 H1 r1 x1 z1 p1 => by
    split at p1
    · refine ⟨false, WR.bl z1, ?_⟩
      rw [if_neg Bool.false_ne_true]
      exact ⟨U, ix1, A, s1, r1, p1⟩
    · refine ⟨true, WR.bl z1, ?_⟩
      rw [if_pos rfl]
      exact p1.done r1 (.mkB _)
    · exact p1.elim⟩
/-! tests -/
theorem imp_pt {e : Expr} {t t' : TT} (h : PT X e t) (hi : ∀ σ H Q, t' σ H Q → t σ H Q) : PT X e t' := ⟨fun pins s σ H Q I q => h.run pins s σ H Q I (hi σ H Q q)⟩
theorem imp_pw {e : Expr} {t t' : TT} (h : PW X e t) (hi : ∀ σ H Q, t' σ H Q → t σ H Q) : PW X e t' := ⟨fun wh pins s σ H Q I q => h.run wh pins s σ H Q I (hi σ H Q q)⟩
theorem imp_pa {es : List Expr} {t t' : TA} (h : PA X es t) (hi : ∀ σ H Q, t' σ H Q → t σ H Q) : PA X es t' := ⟨fun pos pins s σ H Q I q => h.run pos pins s σ H Q I (hi σ H Q q)⟩
theorem t_val {e : Expr} (h : PE X e (rd (kW K) E f)) (he : ∀ whole, isTrue e X.env whole = (do let v ← whole; standAt e.pos; holding [v] (truthy v)) := by intro _; rfl) : PT X e (rd (kB K) E (cB f)) := imp_pt (pt_val h he) fun σ H Q ⟨U, ix, A, s, r, p⟩ =>
  ⟨U, ix, A, s, r, Post.bind p fun a s1 x ix1 H1 r1 x1 z1 p1 => by
    split at p1
    · exact ⟨_, WR.bl z1, p1.done r1 rfl⟩
    · exact p1.elim⟩
theorem t_cmp {op : CmpOp} (ho : OpR X (compareOp op) (rdO (kW K) E o)) (ha : PE X a (rd (kW K) E f)) (hb : PE X b (rd (kW K) E g)) (hm : behindInMarks op b = false) : PT X (.Compare a [op] [b] pos) (rd (kB K) E (cB (eBin o f g))) := imp_pt (pt_cmpR ho ha hb hm) fun σ H Q ⟨U, ix, A, s, r, p⟩ => by
  refine bin_imp ⟨U, ix, A, s, r, Post.bind p fun a s1 x ix1 H1 r1 x1 z1 p1 => ?_⟩
  split at p1
  · exact ⟨_, WR.bl z1, p1.done r1 rfl⟩
  · exact p1.elim
theorem t_chain {op op' : CmpOp} (ho : OpR X (compareOp op) (rdO (kW K) E o)) (ho' : OpR X (compareOp op') (rdO (kW K) E o2)) (ha : PE X a (rd (kW K) E f)) (hb : PE X b (rd (kW K) E g)) (hc : PE X c (rd (kW K) E h))
    (hm : lastMarks [op, op'] [b, c] = false := by with_unfolding_all rfl) : PT X (.Compare a [op, op'] [b, c] pos) (rd (kB K) E (cB (eChain o o2 f g h))) := imp_pt (pt_chain ho ho' ha hb hc hm) fun σ H Q ⟨U, ix, A, s, r, p⟩ => by
  refine chain_imp ⟨U, ix, A, s, r, Post.bind p fun a s1 x ix1 H1 r1 x1 z1 p1 => ?_⟩
  split at p1
  · exact ⟨_, WR.bl z1, p1.done r1 rfl⟩
  · exact p1.elim
theorem t_not {f : S → R S Bool} (ha : PT X a (rd (kB K) E f)) : PT X (.UnaryOp .Not a pos) (rd (kB K) E (cNot f)) := imp_pt (pt_not ha) fun σ H Q ⟨U, ix, A, s, r, p⟩ =>
  ⟨U, ix, A, s, r, Post.bind p fun a s1 x ix1 H1 r1 x1 z1 p1 => by
    cases z1
    exact p1.done r1 rfl⟩
theorem t_and1 {f : S → R S Bool} (ha : PT X a (rd (kB K) E f)) : PW X (.BoolOp .And [a] pos) (rd (kB K) E f) := pw_and1 ha
theorem t_or1 {f : S → R S Bool} (ha : PT X a (rd (kB K) E f)) : PW X (.BoolOp .Or [a] pos) (rd (kB K) E f) := pw_or1 ha
theorem t_and {rest : List Expr} {f g : S → R S Bool} (ha : PT X a (rd (kB K) E f)) (hb : PW X (.BoolOp .And (b :: rest) pos) (rd (kB K) E g)) : PW X (.BoolOp .And (a :: b :: rest) pos) (rd (kB K) E (cAnd f g)) := imp_pw (pw_and ha hb) fun σ H Q ⟨U, ix, A, s, r, p⟩ =>
  ⟨U, ix, A, s, r, Post.bind p fun a s1 x ix1 H1 r1 x1 z1 p1 => by
    cases z1
    cases a with
    | true =>
      rw [if_pos rfl] at p1 ⊢
      exact ⟨U, ix1, A, s1, r1, p1⟩
    | false =>
      rw [if_neg Bool.false_ne_true] at p1 ⊢
      exact p1.done r1 rfl⟩
theorem t_or {rest : List Expr} {f g : S → R S Bool} (ha : PT X a (rd (kB K) E f)) (hb : PW X (.BoolOp .Or (b :: rest) pos) (rd (kB K) E g)) : PW X (.BoolOp .Or (a :: b :: rest) pos) (rd (kB K) E (cOr f g)) := imp_pw (pw_or ha hb) fun σ H Q ⟨U, ix, A, s, r, p⟩ =>
  ⟨U, ix, A, s, r, Post.bind p fun a s1 x ix1 H1 r1 x1 z1 p1 => by
    cases z1
    cases a with
    | false =>
      rw [if_neg Bool.false_ne_true] at p1 ⊢
      exact ⟨U, ix1, A, s1, r1, p1⟩
    | true =>
      rw [if_pos rfl] at p1 ⊢
      exact p1.done r1 rfl⟩
theorem f_if {c : Expr} {t : S → R S Bool} (hc : PT X c (rd (kB K) E t)) (ha : PE X a (rd (kW K) E f)) (hb : PE X b (rd (kW K) E g)) : PE X (.IfExp c a b pos) (rd (kW K) E (eIf t f g)) := imp_te (pe_ifExp hc ha hb) fun σ H Q ⟨U, ix, A, s, r, p⟩ =>
  ⟨U, ix, A, s, r, Post.bind p fun a s1 x ix1 H1 r1 x1 z1 p1 => by
    cases z1
    cases a with
    | false =>
      rw [if_neg Bool.false_ne_true] at p1 ⊢
      exact ⟨U, ix1, A, s1, r1, p1⟩
    | true =>
      rw [if_pos rfl] at p1 ⊢
      exact ⟨U, ix1, A, s1, r1, p1⟩⟩
/-! arguments, displays -/
theorem f_nil : PA X [] (rd (kA K) E aNil) := imp_pa pa_nil fun σ H Q ⟨U, ix, A, s, r, p⟩ => p.done r .nil
theorem f_cons {es : List Expr} {t : LF} (ha : PE X a (rd (kW K) E f)) (hr : PA X es (rd (kA K) E t)) (hs : starEach (a :: es) X.env = (false, eval a X.env) :: starEach es X.env := by rfl) : PA X (a :: es) (rd (kA K) E (aCons f t)) := imp_pa (pa_cons ha hr hs) fun σ H Q ⟨U, ix, A, s, r, p⟩ =>
  ⟨U, ix, A, s, r, Post.bind p fun a s1 x ix1 H1 r1 x1 z1 p1 =>
  ⟨U, ix1, A, s1, r1, Post.bind p1 fun ws s2 xs ix2 H2 r2 x2 z2 p2 => p2.done r2 (.cons (WR.tr x2.tr _ _ z1) z2)⟩⟩
theorem f_tup {es : List Expr} {n : Nat} {t : LF} (h : PA X es (rd (kA K) E t)) (hK : X.K = K := by rfl) : PE X (.Tuple es n pos) (rd (kW K) E (eTup t)) := by
  subst hK
  refine imp_te (e_tup h) fun σ H Q ⟨U, ix, A, s, r, p⟩ => ⟨U, ix, A, s, r, Post.bind p fun ws s1 xs ix1 H1 r1 x1 z1 p1 => ?_⟩
  have hl := WRs.len z1
  split at p1
  · exact ⟨by omega, p1.newT r1 z1⟩
  · exact p1.elim
theorem f_lst {es : List Expr} {t : LF} (h : PA X es (rd (kA K) E t)) : PE X (.List es pos) (rd (kL K) E (eLst t)) := by
  refine imp_te (e_lst h) fun σ H Q ⟨U, ix, A, s, r, p⟩ => ⟨U, ix, A, s, r, Post.bind p fun ws s1 xs ix1 H1 r1 x1 z1 p1 => ?_⟩
  have hl := WRs.len z1
  split at p1
  · exact ⟨by omega, p1.newL r1 z1⟩
  · exact p1.elim
/-! a new list as data, as a box -/
theorem f_F {e : Expr} {t : LF} (h : PE X e (rd (kL K) E t)) : PE X e (rd (kW K) E (eF t)) := imp_te h fun σ H Q ⟨U, ix, A, s, r, p⟩ =>
  ⟨U, ix, A, s, r, Post.bind p fun ws s1 x ix1 H1 r1 x1 z1 p1 => by
    obtain ⟨q, xs, rfl, h0, nu, hq, rq, hw⟩ := z1
    refine p1.done r1 (.mkL hq (fun z => ?_) (WRs.tr trU _ _ hw))
    rcases List.mem_append.mp z with z | z
    · exact nu z
    · exact (rq.un q List.mem_cons_self).1 z⟩
theorem f_Bx {e : Expr} {t : LF} (h : PE X e (rd (kL K) E t)) : PE X e (rd (kW K) E (eBx t)) := imp_te h fun σ H Q ⟨U, ix, A, s, r, p⟩ =>
  ⟨U, ix, A, s, r, by
    unfold eBx at p
    revert p
    cases t s with
    | no => exact fun p => p
    | er e m => exact fun p => p
    | ok ws s1 =>
      intro p x ix1 H1 r1 x1 z1
      obtain ⟨q, xs, rfl, h0, nu, hq, rq, hw⟩ := z1
      simp only [R.bind] at p
      split at p
      · rename_i hf
        refine p (.ref q) (ix1 ++ [q]) H1 (rq.box nu ⟨xs, hq, WRs.frees _ _ hf hw⟩ ⟨_, hq⟩) (x1.box h0) (.ref ?_)
        rw [← rq.mem.len, List.getElem?_append_right (Nat.le_refl _), Nat.sub_self]
        rfl
      · exact p.elim⟩
end
end FE

/-! FE4: walks, comprehensions, statements. -/
namespace FE
open PySem PySem.Spec PyProof.Rows L2 KR
section
variable {K : Fg} {ix av : List Addr} {H : Hp} {ix1 av1 : List Addr} {H1 : Hp} {ix2 av2 : List Addr} {H2 : Hp}
theorem Tr.trans (a : Tr K ix av H ix1 av1 H1) (b : Tr K ix1 av1 H1 ix2 av2 H2) : Tr K ix av H ix2 av2 H2 := ⟨fun n x h => b.pre n x (a.pre n x h), fun x xs h n => b.lst x xs (a.lst x xs h n).1 (a.lst x xs h n).2, fun x xs h => b.tup x xs (a.tup x xs h), fun x o u h => b.frz x o u (a.frz x o u h), fun x φ h => b.ext x φ (a.ext x φ h)⟩
theorem Tr.fr (f : Fr [] H H1) : Tr K ix av H ix av H1 := ⟨fun _ _ h => h, fun x xs h n => ⟨f.at0 h, n⟩, fun x xs h => f.sqt h, fun x o u h => f.frz h, fun x φ h => f.ext h⟩
theorem frees_map : ∀ ds : List PyData, frees (ds.map W.d) = true
  | [] => rfl
  | d :: ds => by simp [frees, free, frees_map ds]
theorem frees_of {A : List (Option Addr)} : ∀ {ws : List W} {i : Nat} {w : W}, frees ws = true → ws[i]? = some w → free w = true
  | w :: ws, 0, _, h, e => by
    cases e
    simp [frees] at h
    exact h.1
  | w :: ws, i + 1, w', h, e => by
    simp [frees] at h
    exact frees_of (A := A) (i := i) h.2 (by simpa using e)
  | [], _, _, _, e => by simp at e
end
/-! ### what is walked -/
def kI (K : Fg) : Kind K (List W) It := ⟨fun U A _ _ ix H _ J ws => frees ws = true ∧ ∃ (n : Nat) (G : Hp → Prop) (Y : Nat → Hp → V → Hp → Prop), Walk J n G Y ∧ n = ws.length ∧ n ≤ 100000 ∧ (∀ ix2 av2 H2, Tr K ix (avo U ix A) H ix2 av2 H2 → G H2) ∧
    ∀ ix2 av2 H2 (i : Nat) x H3, Tr K ix (avo U ix A) H ix2 av2 H2 → Y i H2 x H3 → Fr [] H2 H3 ∧ ∀ w, ws[i]? = some w → WR K ix2 [] av2 H3 x w, fun _ _ h => h⟩
theorem imp_pi {X : Cx} {tg e : Expr} {t t' : TI} (h : PI X tg e t) (hi : ∀ σ H R, t' σ H R → t σ H R) : PI X tg e t' := ⟨fun pins s σ H R I q => h.run pins s σ H R I (hi σ H R q)⟩
/-- a list that stays as it is: data, the script -/
def seqL : W → Option (List W)
  | .d (.list ds) => some (ds.map .d)
  | .lw ws => some ws
  | .scr ns => some (ns.map fun n => .d (.int n))
  | _ => none
def eIt (sq : W → Option (List W)) (f : EF) (s : S) : R S (List W) := (f s).bind fun w s => match sq w with
  | some ws => if ws.length ≤ 100000 ∧ frees ws = true then .ok ws s else .no
  | none => .no
def signs (z : Str) : List W := z.cps.toList.map fun c => .d (.str ⟨#[c]⟩)
def seqS : W → Option (List W)
  | .d (.str z) => some (signs z)
  | _ => none
def eRng1 (f : LF) (s : S) : R S (List W) := (f s).bind fun ws s => match ws with
  | [.d (.int j)] => if -40000 ≤ j ∧ j ≤ 40000 then .ok ((List.range j.toNat).map fun (i : Nat) => .d (.int i)) s else .no
  | _ => .no
def eRng2 (f : LF) (s : S) : R S (List W) := (f s).bind fun ws s => match ws with
  | [.d (.int i), .d (.int j)] => if (-40000 ≤ i ∧ i ≤ 40000) ∧ -40000 ≤ j ∧ j ≤ 40000 then .ok ((List.range (j - i).toNat).map fun (n : Nat) => .d (.int (i + n))) s else .no
  | _ => .no
theorem ints_wr {K : Fg} {ix : List Addr} {A : List (Option Addr)} {av : List Addr} {H : Hp} : ∀ ns : List Int, WRs K ix A av H (ns.map V.int) (ns.map fun n => .d (.int n))
  | [] => .nil
  | n :: ns => .cons (.mkI n) (ints_wr ns)
section
variable {X : Cx} {K : Fg} {E : XK} {pos : Pos} {tg e : Expr} {f : EF} {t : LF}
theorem i_list (he : PE X e (rd (kW K) E f)) (hK : X.K = K := by rfl) : PI X tg e (rd (kI K) E (eIt seqL f)) := by
  subst hK
  refine imp_pi (pi_list he) fun σ H R ⟨U, ix, A, s, r, p⟩ => ⟨U, ix, A, s, r, Post.bind p fun w s1 x ix1 H1 r1 x1 z1 p1 => ?_⟩
  have fin : ∀ (a : Addr) (xs : List V) (ws : List W), frees ws = true → ws.length ≤ 100000 → Sc X.K (avo U ix1 A) H1 a xs → WRs X.K ix1 A (avo U ix1 A) H1 xs ws → Post (kI X.K) U ix1 A σ H1 E R (.ok ws s1) → (∃ ys, SqL X.K H1 a ys) ∧ R (Itl X.K a) H1 := by
    intro a xs ws hf hl ha hw p
    have sc : ∀ {av : List Addr} {H2 : Hp}, Sc X.K av H2 a xs → SqL X.K H2 a xs := fun h => by
      rcases h with ⟨o, h⟩ | ⟨h, _⟩ | h
      · exact .inl (.inr ⟨o, h⟩)
      · exact .inl (.inl h)
      · exact .inr h
    have hlen := WRs.len hw
    refine ⟨⟨xs, sc ha⟩, p.done r1 ⟨hf, _, _, _, walk_list (xs := xs), hlen, by omega, fun ix2 av2 H2 q => sc (Sc.tr q ha), fun ix2 av2 H2 i x H3 q y => ?_⟩⟩
    obtain ⟨rfl, hx⟩ := y
    refine ⟨.refl _ _, fun w hw' => ?_⟩
    obtain ⟨v, e1, e2⟩ := WRs.get (WRs.tr q _ _ (WRs.frees _ _ hf hw)) hw'
    rw [hx] at e1
    cases e1
    exact e2
  cases z1 with
  | @d v x h =>
    cases h with
    | @lst a xs ds h1 h2 h3 =>
      simp only [seqL] at p1
      split at p1
      · rename_i hc
        have := fin a xs _ hc.2 hc.1 (.inr (.inl ⟨h1, h2⟩)) (.ofD h3) p1
        exact ⟨a, rfl, this.1, this.2⟩
      · exact p1.elim
    | non => exact p1.elim
    | bl => exact p1.elim
    | int => exact p1.elim
    | str => exact p1.elim
    | tup => exact p1.elim
  | ref => exact p1.elim
  | own => exact p1.elim
  | adr => exact p1.elim
  | @scr a ns h =>
    simp only [seqL] at p1
    split at p1
    · rename_i hc
      have := fin a _ _ hc.2 hc.1 h (ints_wr _) p1
      exact ⟨a, rfl, this.1, this.2⟩
    · exact p1.elim
  | tw => exact p1.elim
  | @lw a xs ws h1 h2 h3 =>
    simp only [seqL] at p1
    split at p1
    · rename_i hc
      have := fin a xs _ hc.2 hc.1 (.inr (.inl ⟨h1, h2⟩)) h3 p1
      exact ⟨a, rfl, this.1, this.2⟩
    · exact p1.elim
theorem i_tup (he : PE X e (rd (kW K) E f)) (hK : X.K = K := by rfl) : PI X tg e (rd (kI K) E (eIt readT f)) := by
  subst hK
  refine imp_pi (pi_tup he) fun σ H R ⟨U, ix, A, s, r, p⟩ => ⟨U, ix, A, s, r, Post.bind p fun w s1 x ix1 H1 r1 x1 z1 p1 => ?_⟩
  cases q : readT w with
  | none =>
    simp only [q] at p1
    exact p1.elim
  | some ws =>
    simp only [q] at p1
    split at p1
    · rename_i hc
      obtain ⟨a, xs, rfl, h1, h2⟩ := readT_ok z1 q
      have hlen := WRs.len h2
      refine ⟨a, rfl, ⟨xs, h1⟩, p1.done r1 ⟨hc.2, _, _, _, walk_tup (xs := xs), hlen, by omega, fun ix2 av2 H2 q => q.tup _ _ h1, fun ix2 av2 H2 i x H3 q y => ?_⟩⟩
      obtain ⟨rfl, hx⟩ := y
      refine ⟨.refl _ _, fun w hw' => ?_⟩
      obtain ⟨v, e1, e2⟩ := WRs.get (WRs.tr q _ _ (WRs.frees _ _ hc.2 h2)) hw'
      rw [hx] at e1
      cases e1
      exact e2
    · exact p1.elim
theorem i_str (he : PE X e (rd (kW K) E f)) : PI X tg e (rd (kI K) E (eIt seqS f)) := by
  refine imp_pi (pi_str he) fun σ H R ⟨U, ix, A, s, r, p⟩ => ⟨U, ix, A, s, r, Post.bind p fun w s1 x ix1 H1 r1 x1 z1 p1 => ?_⟩
  unfold seqS at p1
  split at p1
  · rename_i q
    split at q
    · rename_i z
      cases q
      split at p1
      · rename_i hc
        refine ⟨z, WR.str z1, p1.done r1 ⟨hc.2, _, _, _, walk_str, by simp [signs], by simpa [signs] using hc.1, fun ix2 av2 H2 q => trivial, fun ix2 av2 H2 i x H3 q y => ?_⟩⟩
        obtain ⟨rfl, c, hx, rfl⟩ := y
        refine ⟨.refl _ _, fun w hw' => ?_⟩
        unfold signs at hw'
        rw [List.getElem?_map, Array.getElem?_toList, hx] at hw'
        cases hw'
        exact .mkS _
      · exact p1.elim
    · cases q
  · exact p1.elim
theorem i_rng1 {a : Expr} {p : Pos} (hg : Gl X "range") (hm : X.mg "range" = none) (ha : PA X [a] (rd (kA K) E t)) (hs : starEach [a] X.env = [(false, eval a X.env)] := by rfl) : PI X tg (.Call (.Name "range" p) [a] [] pos) (rd (kI K) E (eRng1 t)) := by
  refine imp_pi (pi_range1 hg hm ha hs) fun σ H R ⟨U, ix, A, s, r, p⟩ => ⟨U, ix, A, s, r, Post.bind p fun ws s1 xs ix1 H1 r1 x1 z1 p1 => ?_⟩
  split at p1
  · rename_i j
    cases z1 with
    | cons h1 h2 =>
      cases h2
      split at p1
      · rename_i hc
        refine ⟨j, by rw [WR.int h1], by omega, by omega, p1.done r1 ⟨?_, _, _, _, walk_range, by simp, by omega, fun ix2 av2 H2 q => trivial, fun ix2 av2 H2 i x H3 q y => ?_⟩⟩
        · have : (List.map (fun (i : Nat) => W.d (PyData.int (i : Int))) (List.range j.toNat)) = ((List.range j.toNat).map fun (i : Nat) => PyData.int (i : Int)).map W.d := by rw [List.map_map]; rfl
          rw [this]
          exact frees_map _
        · obtain ⟨rfl, rfl⟩ := y
          refine ⟨.refl _ _, fun w hw' => ?_⟩
          rw [List.getElem?_map] at hw'
          cases q2 : (List.range j.toNat)[i]? with
          | none => rw [q2] at hw'; cases hw'
          | some m =>
            rw [q2] at hw'
            cases hw'
            have hm := (List.getElem?_eq_some_iff.mp q2)
            obtain ⟨_, hm⟩ := hm
            rw [List.getElem_range] at hm
            subst hm
            show WR K ix2 [] av2 H3 (V.int (0 + ((i : Nat) : Int))) (W.d (PyData.int ((i : Nat) : Int)))
            rw [Int.zero_add]
            exact .mkI _
      · exact p1.elim
  · exact p1.elim
theorem i_rng2 {a b : Expr} {p : Pos} (hg : Gl X "range") (hm : X.mg "range" = none) (ha : PA X [a, b] (rd (kA K) E t)) (hs : starEach [a, b] X.env = [(false, eval a X.env), (false, eval b X.env)] := by rfl) (hs2 : starEach [b] X.env = [(false, eval b X.env)] := by rfl) :
    PI X tg (.Call (.Name "range" p) [a, b] [] pos) (rd (kI K) E (eRng2 t)) := by
  refine imp_pi (pi_range2 hg hm ha hs hs2) fun σ H R ⟨U, ix, A, s, r, p⟩ => ⟨U, ix, A, s, r, Post.bind p fun ws s1 xs ix1 H1 r1 x1 z1 p1 => ?_⟩
  split at p1
  · rename_i i0 j
    cases z1 with
    | cons h1 h2 =>
      cases h2 with
      | cons h2 h3 =>
      cases h3
      split at p1
      · rename_i hc
        refine ⟨i0, j, by rw [WR.int h1, WR.int h2], ⟨by omega, by omega, by omega, by omega⟩, p1.done r1 ⟨?_, _, _, _, walk_range, by simp, by omega, fun ix2 av2 H2 q => trivial, fun ix2 av2 H2 i x H3 q y => ?_⟩⟩
        · have : (List.map (fun (n : Nat) => W.d (PyData.int (i0 + (n : Int)))) (List.range (j - i0).toNat)) = ((List.range (j - i0).toNat).map fun (n : Nat) => PyData.int (i0 + (n : Int))).map W.d := by rw [List.map_map]; rfl
          rw [this]
          exact frees_map _
        · obtain ⟨rfl, rfl⟩ := y
          refine ⟨.refl _ _, fun w hw' => ?_⟩
          rw [List.getElem?_map] at hw'
          cases q2 : (List.range (j - i0).toNat)[i]? with
          | none => rw [q2] at hw'; cases hw'
          | some m =>
            rw [q2] at hw'
            cases hw'
            have hm := (List.getElem?_eq_some_iff.mp q2)
            obtain ⟨_, hm⟩ := hm
            rw [List.getElem_range] at hm
            subst hm
            exact .mkI _
      · exact p1.elim
  · exact p1.elim
end
/-! ### comprehensions -/
def loopC (i : Nat) (c : S → R S Bool) (e : EF) : List W → S → R S (List W)
  | [], s => .ok [] s
  | x :: xs, s => match c { s with sl := s.sl.set i (.v x) } with
    | .ok true s1 => match e s1 with
      | .ok w s2 => if free w = true then (match loopC i c e xs { s2 with sl := s2.sl.set i .no } with
        | .ok r s3 => .ok (w :: r) s3
        | _ => .no) else .no
      | _ => .no
    | .ok false s1 => loopC i c e xs { s1 with sl := s1.sl.set i .no }
    | _ => .no
def cT (s : S) : R S Bool := .ok true s
def eComp (it : LF) (i : Nat) (c : S → R S Bool) (e : EF) (s : S) : R S (List W) := (it s).bind fun ws s1 => match s1.sl[i]? with
  | none | some (.own _) => .no
  | some z => match loopC i c e ws { s1 with sl := s1.sl.set i .no } with
    | .ok r s2 => .ok r { s2 with sl := s2.sl.set i z }
    | _ => .no
section
variable {K : Fg} {U ix : List Addr} {A : List (Option Addr)} {H : Hp} {ix' : List Addr} {A' : List (Option Addr)} {H' : Hp} {σ σ' : L2.St} {s : S}
/-- a slot's value is another one, or forgotten -/
theorem Rel.slot (r : Rel K U ix A σ H s) (i : Nat) (z : Sl) (o : Option V) (hA : A[i]? = some none) (hz : SR K ix (avo U ix A) H o none z) : Rel K U ix A (σ.set i o) H { s with sl := s.sl.set i z } := by
  refine ⟨r.mem, .of (by simp only [List.length_set]; exact r.slo.len.1) (by simp only [List.length_set]; exact r.slo.len.2) fun j o' oa sl h1 h2 h3 => ?_, r.nd, r.un⟩
  by_cases e : j = i
  · subst e
    have hl : j < s.sl.length := by simpa using (List.getElem?_eq_some_iff.mp h3).1
    have hl1 := r.slo.len.1
    rw [List.getElem?_set_self (by omega)] at h1 h3
    cases h1
    cases h3
    rw [hA] at h2
    cases h2
    exact hz
  · rw [List.getElem?_set_ne (Ne.symm e)] at h1 h3
    obtain ⟨o2, oa2, e1, e2, h⟩ := r.slo.get h3
    rw [h1] at e1
    rw [h2] at e2
    cases e1
    cases e2
    exact h
/-- what is set aside is written -/
theorem Rel.putU {D : Addr} {o : HO} (r : Rel K (D :: U) ix A σ H s) (f : Fr [D] H H') (hD : H' D = some o) (nt : ∀ ps, o ≠ .tbl ps := by intro ps h; cases h) : Rel K (D :: U) ix A σ H' s ∧ Tr K ix (avo (D :: U) ix A) H ix (avo (D :: U) ix A) H' := by
  have nD : ∀ a, a ∉ avo (D :: U) ix A → a ∉ [D] := fun a h z => h (List.mem_append_left _ (by
    have : a = D := by simpa using z
    rw [this]
    exact List.mem_cons_self))
  have nD2 : ∀ a, a ∈ ix ++ ow A → a ∉ [D] := fun a h z => by
    have : a = D := by simpa using z
    subst this
    exact (r.un a List.mem_cons_self).1 h
  have t : Tr K ix (avo (D :: U) ix A) H ix (avo (D :: U) ix A) H' := ⟨fun _ _ h => h, fun a xs h n => ⟨f.all _ _ h (nD a n), n⟩, fun a xs h => f.sqt h, fun a o u h => f.frz h, fun a φ h => f.ext h⟩
  refine ⟨⟨⟨r.mem.len, fun k b' c h1 h2 => BR.tr t (fun o h => f.all _ _ h (nD2 c (List.mem_append_left _ (List.mem_of_getElem? h2)))) (r.mem.box k b' c h1 h2)⟩, .of r.slo.len.1 r.slo.len.2 fun i o oa sl h1 h2 h3 => ?_, r.nd, fun u hu => ⟨(r.un u hu).1, ?_⟩⟩, t⟩
  · obtain ⟨o', oa', e1, e2, h⟩ := r.slo.get h3
    rw [h1] at e1
    rw [h2] at e2
    cases e1
    cases e2
    exact SR.tr t (fun c hc u hu => f.all _ _ hu (nD2 c (List.mem_append_right _ (ow_get (by rw [h2, hc]))))) h
  · by_cases e : u = D
    · subst e
      exact ⟨_, vis_of hD nt⟩
    · obtain ⟨o, ho⟩ := (r.un u hu).2
      exact ⟨o, f.vis.all _ _ ho (by simpa using e)⟩
theorem Ext.skip {D : Addr} {H2 : Hp} (x : Ext ix A H ix' A' H') (f : Fr [D] H' H2) (hD : vis H D = none) : Ext ix A H ix' A' H2 := ⟨x.pre, x.new, ⟨fun b o h n => f.vis.all b o (x.fr.all b o h n) (fun z => by
  have e : b = D := by simpa using z
  rw [e, hD] at h
  cases h), fun h => f.vis.tup (x.fr.tup h), fun h => f.vis.frz (x.fr.frz h), fun h => f.vis.ext (x.fr.ext h)⟩⟩
/-- out of reach of what was set aside since -/
theorem Ext.trD {D : Addr} (x : Ext ix A H ix' A' H') (hD : vis H D = none) : Tr K ix (avo U ix A) H ix' (avo (D :: U) ix' A') H' := by
  have t : Tr K ix (avo U ix A) H ix' (avo U ix' A') H' := x.tr
  refine ⟨t.pre, fun a xs h n => ⟨(t.lst a xs h n).1, fun z => ?_⟩, t.tup, t.frz, t.ext⟩
  rcases List.mem_cons.mp (show a ∈ D :: (U ++ (ix' ++ ow A')) from z) with e | e
  · subst e
    rw [vis_of h] at hD
    cases hD
  · exact (t.lst a xs h n).2 e
end
section
variable {X : Cx} {K : Fg} {E : XK} {it : LF} {i : Nat} {c : S → R S Bool} {e : EF}
theorem comp_imp {σ : L2.St} {H : Hp} {Q : VK} (q : rd (kL K) E (eComp it i c e) σ H Q) : vLc (rd (kI K) E it) (gName i) (rd (kB K) E0 c) (rd (kW K) E0 e) [i] σ H Q := by
  obtain ⟨U, ix, A, s, r, p⟩ := q
  refine ⟨U, ix, A, s, r, Post.bind p fun ws s1 J ix1 H1 r1 x1 z1 p1 => ?_⟩
  obtain ⟨hfr, n, G, Y, wk, hn, hz, hG, hY⟩ := z1
  unfold LcT
  refine ⟨n, G, Y, wk, hz, fun D H2 nD f2 h2 => ?_⟩
  -- the slot
  obtain ⟨z, hsl, hzo, p1⟩ : ∃ z, s1.sl[i]? = some z ∧ (∀ ws, z ≠ .own ws) ∧ Post (kL K) U ix1 A σ H1 E Q (match loopC i c e ws { s1 with sl := s1.sl.set i .no } with
    | .ok r s2 => .ok r { s2 with sl := s2.sl.set i z }
    | _ => .no) := by
    revert p1
    cases s1.sl[i]? with
    | none => exact fun p => p.elim
    | some z =>
      cases z with
      | own ws => exact fun p => p.elim
      | no => exact fun p => ⟨_, rfl, (fun _ q => by cases q), p⟩
      | v w => exact fun p => ⟨_, rfl, (fun _ q => by cases q), p⟩
  obtain ⟨oz, az, hσ, hA, hSR⟩ := r1.slo.get hsl
  have haz : az = none := by
    cases z with
    | own ws => exact absurd rfl (hzo ws)
    | no => exact hSR
    | v w => exact hSR.1
  subst haz
  have hil : i < σ.length := (List.getElem?_eq_some_iff.mp hσ).1
  obtain ⟨r0, s2, hL⟩ : ∃ r0 s2, loopC i c e ws { s1 with sl := s1.sl.set i .no } = .ok r0 s2 := by
    revert p1
    cases loopC i c e ws { s1 with sl := s1.sl.set i .no } with
    | no => exact fun p => p.elim
    | er e m => exact fun p => p.elim
    | ok r0 s2 => exact fun _ => ⟨r0, s2, rfl⟩
  rw [hL] at p1
  have hAs : A.set i none = A := by
    apply List.ext_getElem?
    intro j
    by_cases e : j = i
    · subst e
      rw [List.getElem?_set_self (List.getElem?_eq_some_iff.mp hA).1, hA]
    · rw [List.getElem?_set_ne (Ne.symm e)]
  have hw0 : wipe σ [i] = σ.set i none := rfl
  let Pv : Nat → List V → Hp → Prop := fun k acc H3 => ∃ ix3 s3 accW rest, Rel K (D :: U) ix3 A (σ.set i none) H3 s3 ∧ H3 D = some (.lst acc) ∧ WRs K ix3 [] (avo (D :: U) ix3 A) H3 acc accW ∧ acc.length ≤ k ∧ loopC i c e (ws.drop k) s3 = .ok rest s2 ∧ accW ++ rest = r0 ∧
    Ext ix1 A H1 ix3 A H3
  refine ⟨Pv, ⟨ix1, _, [], r0, (r1.res nD f2 h2).slot i .no none hA rfl, h2, .nil, Nat.le_refl _, by simpa using hL, rfl, .of0 f2⟩, fun k acc H3 hk ⟨ix3, s3, accW, rest, h1, h2, h3, h4, h5, h6, h7⟩ => ⟨h4, h2, hG _ _ _ (Ext.trD h7 (vis_none nD))⟩, ?_, ?_⟩
  · intro k x acc H3 H4 hk ⟨ix3, s3, accW, rest, h1, h2, h3, h4, h5, h6, h7⟩ y
    obtain ⟨f4, hx⟩ := hY _ _ _ k x H4 (Ext.trD h7 (vis_none nD)) y
    have hk' : k < ws.length := by omega
    have hxw := hx _ (List.getElem?_eq_getElem hk')
    rw [List.drop_eq_getElem_cons hk'] at h5
    generalize hwk : ws[k] = wk at h5 hxw
    have hfk : free wk = true := frees_of (A := A) hfr (by rw [← hwk]; exact List.getElem?_eq_getElem hk')
    have rx := ((h1.tr0 f4).setV i hxw).1
    rw [hAs, List.set_set] at rx
    refine ⟨fun σ2 H5 => σ2 = (σ.set i (some x)) ∧ H5 = H4, ⟨by rw [hw0, List.set_set], rfl⟩, ?_⟩
    rintro σ2 H5 ⟨rfl, rfl⟩
    refine ⟨by simp [wipe, List.set_set], ?_⟩
    -- the test
    simp only [loopC] at h5
    refine ⟨_, ⟨D :: U, ix3, A, _, rx, ?_⟩, fun _ _ q => q⟩
    revert h5
    cases hc : c { s3 with sl := s3.sl.set i (.v wk) } with
    | no => exact fun h => by cases h
    | er e m => exact fun h => by cases h
    | ok b s4 =>
      intro h5 b' ix4 H4' r4 x4 e4
      cases e4
      have hD4 : H4' D = some (.lst acc) := x4.fr.atL (f4.at0 h2) (h1.un D List.mem_cons_self).1
      have x14 : Ext ix1 A H1 ix4 A H4' := (h7.trans (.of0 f4)).trans x4
      have w4 : WRs K ix4 [] (avo (D :: U) ix4 A) H4' acc accW := WRs.tr x4.tr _ _ (WRs.tr (Tr.fr f4) _ _ h3)
      have hA4 : A[i]? = some none := hA
      cases b with
      | false =>
        rw [if_neg Bool.false_ne_true]
        have r5 := r4.slot i .no none hA rfl
        rw [List.set_set] at r5
        exact ⟨ix4, _, accW, rest, r5, hD4, w4, by omega, h5, h6, x14⟩
      | true =>
        rw [if_pos rfl]
        refine ⟨_, ⟨D :: U, ix4, A, _, r4, ?_⟩, fun _ _ q => q⟩
        dsimp only at h5
        revert h5
        cases he : e s4 with
        | no => exact fun h => by cases h
        | er e m => exact fun h => by cases h
        | ok w s5 =>
          intro h5 v ix5 H5 r5 x5 w5
          simp only at h5
          split at h5
          · rename_i hf
            split at h5
            · rename_i rest' s6 hrest
              cases h5
              have hD5 : H5 D = some (.lst acc) := x5.fr.atL hD4 (r4.un D List.mem_cons_self).1
              refine ⟨hD5, fun H6 f6 h6' => ?_⟩
              have r6 := r5.putU f6 h6'
              have r7 := r6.1.slot i .no none hA rfl
              rw [List.set_set] at r7
              refine ⟨ix5, _, accW ++ [w], rest', r7, h6', ?_, by rw [List.length_append]; simp; omega, hrest, by rw [← h6]; simp, (x14.trans x5).skip f6 (vis_none nD)⟩
              exact WRs.append (WRs.tr r6.2 _ _ (WRs.tr x5.tr _ _ w4)) (.cons (WR.free _ _ hf (WR.tr r6.2 _ _ w5)) .nil)
            · cases h5
          · cases h5
  · intro acc H3 ⟨ix3, s3, accW, rest, h1, h2, h3, h4, h5, h6, h7⟩
    rw [hn, List.drop_length] at h5
    simp only [loopC, R.ok.injEq] at h5
    obtain ⟨rfl, rfl⟩ := h5
    rw [List.append_nil] at h6
    subst h6
    have nU : D ∉ U := fun z => by
      obtain ⟨o, q⟩ := (r1.un D z).2
      rw [vis_none nD] at q
      cases q
    have hz3 : SR K ix3 (avo (D :: U) ix3 A) H3 oz none z := by
      cases z with
      | own ws => exact absurd rfl (hzo ws)
      | no => rfl
      | v w =>
        obtain ⟨_, v, e1, e2⟩ := hSR
        exact ⟨rfl, v, e1, WR.tr (Ext.trD h7 (vis_none nD)) _ _ e2⟩
    have rf := h1.slot i z oz hA hz3
    have hσs : (σ.set i none).set i oz = σ := by
      rw [List.set_set]
      apply List.ext_getElem?
      intro j
      by_cases e : j = i
      · subst e
        rw [List.getElem?_set_self hil, hσ]
      · rw [List.getElem?_set_ne (Ne.symm e)]
    rw [hσs] at rf
    exact p1 (.ref D) ix3 H3 (Rel.let (U := [D]) rf) h7 ⟨D, acc, rfl, vis_none nD, nU, h2, rf, WRs.lift _ _ h3⟩
variable {elt tg iter : Expr} {ifs : List Expr} {scope : Scope} {x : Str} {pos : Pos}
theorem f_comp (hc : X.calm = true) (hN : X.N.Nodup) (hi : PI X tg iter (rd (kI K) E it)) (ok : BlkOk X.N X.env.scope scope [(x, i)])
    (hg : ∀ (s : Shared) (H : Hp) (C : Addr) (cl : List (Str × Addr)) (fp : List Addr), PG (X.blk s H scope (compEnvC scope cl C X.env) fp) tg (gName i))
    (ht : ∀ (s : Shared) (H : Hp) (C : Addr) (cl : List (Str × Addr)) (fp : List Addr), PTs (X.blk s H scope (compEnvC scope cl C X.env) fp) ifs (rd (kB K) E0 c))
    (he : ∀ (s : Shared) (H : Hp) (C : Addr) (cl : List (Str × Addr)) (fp : List Addr), PE (X.blk s H scope (compEnvC scope cl C X.env) fp) elt (rd (kW K) E0 e)) (hs : ∀ x, foldedSetIterable iter X.env x = pure x := by intro _; rfl) :
    PE X (.ListComp elt [⟨tg, iter, ifs, 0⟩] scope pos) (rd (kL K) E (eComp it i c e)) := imp_te (l_comp hc hN hi ok hg ht he hs) fun _ _ _ q => comp_imp q
theorem imp_pts {X : Cx} {es : List Expr} {t t' : TT} (h : PTs X es t) (hi : ∀ σ H Q, t' σ H Q → t σ H Q) : PTs X es t' := ⟨fun pins s σ H Q I q => h.run pins s σ H Q I (hi σ H Q q)⟩
theorem t_nil : PTs X [] (rd (kB K) E cT) := imp_pts pts_nil fun σ H Q ⟨U, ix, A, s, r, p⟩ => p.done r rfl
end
end FE

/-! FE5: statements, defs. -/
namespace FE
open PySem PySem.Spec PyProof.Rows L2 KR
/-! ### targets -/
abbrev GF := W → S → R S Unit
def PostG (K : Fg) (U ix : List Addr) (A : List (Option Addr)) (H : Hp) (E : XK) (Q : L2.St → Hp → Prop) : R S Unit → Prop
  | .no => False
  | .ok _ s => ∀ σ' ix' A' H', Rel K U ix' A' σ' H' s → Ext ix A H ix' A' H' → Q σ' H'
  | .er e m => PostE K U ix A H E e m
def rdG (K : Fg) (E : XK) (g : GF) : TG := fun v σ H Q => ∃ U ix A s w, Rel K U ix A σ H s ∧ WR K ix [] (avo U ix A) H v w ∧ PostG K U ix A H E Q (g w s)
def rdGs (K : Fg) (E : XK) (g : List W → S → R S Unit) : TGs := fun vs σ H Q => ∃ U ix A s ws, Rel K U ix A σ H s ∧ WRs K ix [] (avo U ix A) H vs ws ∧ PostG K U ix A H E Q (g ws s)
theorem PostG.mono {K : Fg} {U ix : List Addr} {A : List (Option Addr)} {H : Hp} {E : XK} {ix' : List Addr} {A' : List (Option Addr)} {H' : Hp} {Q : L2.St → Hp → Prop} {r : R S Unit} (x : Ext ix A H ix' A' H') (p : PostG K U ix A H E Q r) : PostG K U ix' A' H' E Q r := by
  cases r with
  | no => exact p
  | ok a s => exact fun σ2 ix2 A2 H2 r y => p σ2 ix2 A2 H2 r (x.trans y)
  | er e m => exact PostE.mono x p
theorem PostG.bind {K : Fg} {U ix : List Addr} {A : List (Option Addr)} {H : Hp} {E : XK} {Q Q1 : L2.St → Hp → Prop} {r : R S Unit} {f : S → R S Unit} (p : PostG K U ix A H E Q (r.bind fun _ s => f s))
    (h : ∀ s σ' ix' A' H', Rel K U ix' A' σ' H' s → Ext ix A H ix' A' H' → PostG K U ix' A' H' E Q (f s) → Q1 σ' H') : PostG K U ix A H E Q1 r := by
  cases r with
  | no => exact p
  | ok a s => exact fun σ2 ix2 A2 H2 r y => h s σ2 ix2 A2 H2 r y (PostG.mono y p)
  | er e m => exact p
theorem PostG.bindO {K : Fg} {U ix : List Addr} {A : List (Option Addr)} {H : Hp} {E : XK} {D : Ends} {Q1 : L2.St → Hp → Prop} {r : R S Unit} {f : S → O} (p : PostS K U ix A H E D (FE.bindO r fun _ s => f s))
    (h : ∀ s σ' ix' A' H', Rel K U ix' A' σ' H' s → Ext ix A H ix' A' H' → PostS K U ix' A' H' E D (f s) → Q1 σ' H') : PostG K U ix A H E Q1 r := by
  cases r with
  | no => exact p
  | ok a s => exact fun σ2 ix2 A2 H2 r y => h s σ2 ix2 A2 H2 r y (PostS.mono y p)
  | er e m => exact p
def gN (i : Nat) (w : W) (s : S) : R S Unit := if free w = true then .ok () { s with sl := s.sl.set i (.v w) } else .no
def gsNil (ws : List W) (s : S) : R S Unit := match ws with
  | [] => .ok () s
  | _ => .no
def gsCons (g : GF) (h : List W → S → R S Unit) (ws : List W) (s : S) : R S Unit := match ws with
  | w :: r => (g w s).bind fun _ s => h r s
  | _ => .no
def gT (g : List W → S → R S Unit) (n : Nat) (w : W) (s : S) : R S Unit := match readT w with
  | some ws => if ws.length = n ∧ frees ws = true then g ws s else .no
  | none => .no
theorem imp_pg {X : Cx} {e : Expr} {t t' : TG} (h : PG X e t) (hi : ∀ v σ H Q, t' v σ H Q → t v σ H Q) : PG X e t' := ⟨fun pins s σ H v u Q I r q => h.run pins s σ H v u Q I r (hi v σ H Q q)⟩
theorem imp_pgs {X : Cx} {e : List Expr} {t t' : TGs} (h : PGs X e t) (hi : ∀ v σ H Q, t' v σ H Q → t v σ H Q) : PGs X e t' := ⟨fun pins s σ H v u Q I r q => h.run pins s σ H v u Q I r (hi v σ H Q q)⟩
section
variable {X : Cx} {K : Fg} {E : XK} {pos : Pos}
theorem g_name {i : Nat} {x : Str} (hN : X.N.Nodup) (hi : X.N[i]? = some x) (hx : Loc X.env.scope x) (hf : X.fn x = true ∨ X.env.scope.names.lookup x = some .local := by first | exact .inl rfl | exact .inr rfl | assumption) : PG X (.Name x pos) (rdG K E (gN i)) :=
  imp_pg (pg_name hN hi hx hf) fun v σ H Q ⟨U, ix, A, s, w, r, hw, p⟩ => by
    unfold gN at p
    split at p
    · have q := r.setV i hw
      exact p _ _ _ _ q.1 q.2
    · exact p.elim
theorem g_nil : PGs X [] (rdGs K E gsNil) := imp_pgs pgs_nil fun v σ H Q ⟨U, ix, A, s, ws, r, hw, p⟩ => by
  unfold gsNil at p
  split at p
  · cases hw
    exact ⟨rfl, p _ _ _ _ r .refl⟩
  · exact p.elim
theorem g_cons {e : Expr} {es : List Expr} {g : GF} {h : List W → S → R S Unit} (h1 : PG X e (rdG K E g)) (h2 : PGs X es (rdGs K E h))
    (hs : (assignEach (e :: es) X.env).map (·.2) = assign e X.env :: (assignEach es X.env).map (·.2) := by rfl) : PGs X (e :: es) (rdGs K E (gsCons g h)) := imp_pgs (pgs_cons h1 h2 hs) fun v σ H Q ⟨U, ix, A, s, ws, r, hw, p⟩ => by
  unfold gsCons at p
  split at p
  · cases hw with
    | cons w1 w2 => exact ⟨_, _, rfl, U, ix, A, s, _, r, w1, PostG.bind p fun s1 σ1 ix1 A1 H1 r1 x1 p1 => ⟨U, ix1, A1, s1, _, r1, WRs.tr x1.tr _ _ w2, p1⟩⟩
  · exact p.elim
theorem g_tup {es : List Expr} {k n : Nat} {g : List W → S → R S Unit} (hc : X.calm = true) (h : PGs X es (rdGs K E g))
    (hn : (assignEach es X.env).length = n := by rfl) (hst : (assignEach es X.env).findIdx? (·.1) = none := by rfl) (hK : X.K = K := by rfl) : PG X (.Tuple es k pos) (rdG K E (gT g n)) := by
  subst hK
  refine imp_pg (pg_tup hc h hn hst) fun v σ H Q ⟨U, ix, A, s, w, r, hw, p⟩ => ?_
  unfold gT at p
  split at p
  · rename_i ws q
    split at p
    · rename_i hc
      obtain ⟨a, xs, rfl, h1, h2⟩ := readT_ok hw q
      exact ⟨a, xs, rfl, h1, by rw [WRs.len h2]; exact hc.1, U, ix, A, s, ws, r, h2, p⟩
    · exact p.elim
  · exact p.elim
end
/-! ### statements -/
def sNx (s : S) : O := .nx s
def sBk (s : S) : O := .bk s
def sCt (s : S) : O := .ct s
def sNo (_ : S) : O := .no
def sSeq (f g : SF) (s : S) : O := match f s with
  | .nx s => g s
  | o => o
def sIf (c : S → R S Bool) (f g : SF) (s : S) : O := bindO (c s) fun b s => if b = true then f s else g s
def sE (f : EF) (s : S) : O := bindO (f s) fun _ s => .nx s
def sRet (f : EF) (s : S) : O := bindO (f s) fun w s => .rt w s
def sSet (i : Nat) (f : EF) (s : S) : O := bindO (f s) fun w s => if free w = true then .nx { s with sl := s.sl.set i (.v w) } else .no
def sOwn (i : Nat) (f : LF) (s : S) : O := bindO (f s) fun ws s => if frees ws = true then .nx { s with sl := s.sl.set i (.own ws) } else .no
def sFz (i : Nat) (g : SF) (s : S) : O := match s.sl[i]? with
  | some (.own ws) => g { s with sl := s.sl.set i (.v (mkL ws)) }
  | _ => .no
def sAsg (f : EF) (g : GF) (s : S) : O := bindO (f s) fun w s => if free w = true then bindO (g w s) fun _ s => .nx s else .no
def loopF (g : GF) (b : SF) : List W → S → O
  | [], s => .nx s
  | x :: xs, s => bindO (g x s) fun _ s => match b s with
    | .nx s => loopF g b xs s
    | .ct s => loopF g b xs s
    | .bk s => .nx s
    | o => o
def sFor (it : LF) (g : GF) (b : SF) (s : S) : O := bindO (it s) fun ws s => loopF g b ws s
def loopW (c : S → R S Bool) (b : SF) : Nat → S → O
  | 0, _ => .no
  | n + 1, s => bindO (c s) fun t s => if t = true then (match b s with
    | .nx s => loopW c b n s
    | .ct s => loopW c b n s
    | .bk s => .nx s
    | o => o) else .nx s
def sWh (n : Nat) (c : S → R S Bool) (b : SF) (s : S) : O := loopW c b n s
/-- a, b = e1, e2: each a value or a new list -/
def sPar (i j : Nat) (f g : EF) (s : S) : O := bindO (f s) fun a s => bindO (g s) fun b s => if free a = true ∧ free b = true then .nx { s with sl := (s.sl.set i (.v a)).set j (.v b) } else .no
def sParL (i j : Nat) (f g : LF) (s : S) : O := bindO (f s) fun a s => bindO (g s) fun b s => if frees a = true ∧ frees b = true then .nx { s with sl := (s.sl.set i (.own a)).set j (.own b) } else .no
section
variable {X : Cx} {K : Fg} {E : XK} {pos : Pos} {st : Stmt} {rest : List Stmt} {f g : SF} {e : Expr}
theorem imp_pss {st : List Stmt} {t t' : TS} (h : PSs X st t) (hi : ∀ D σ H, t' D σ H → t D σ H) : PSs X st t' := ⟨fun pins s σ H D I q => h.run pins s σ H D I (hi D σ H q)⟩
theorem s_nil : PSs X [] (rdS K E sNx) := imp_pss pss_nil fun D σ H ⟨U, ix, A, s, r, p⟩ => p _ _ _ _ r .refl
theorem s_cons (h1 : PS X st (rdS K E f)) (h2 : PSs X rest (rdS K E g)) : PSs X (st :: rest) (rdS K E (sSeq f g)) := imp_pss (pss_cons h1 h2) fun D σ H ⟨U, ix, A, s, r, p⟩ => by
  refine ⟨U, ix, A, s, r, ?_⟩
  unfold sSeq at p
  revert p
  cases f s with
  | no => exact fun p => p
  | nx s1 => exact fun p σ1 ix1 A1 H1 r1 x1 => ⟨U, ix1, A1, s1, r1, PostS.mono x1 p⟩
  | bk s1 => exact fun p => p
  | ct s1 => exact fun p => p
  | rt w s1 => exact fun p => p
  | er e m => exact fun p => p
theorem s_one (h1 : PS X st (rdS K E f)) : PSs X [st] (rdS K E f) := pss_one h1
theorem s_pass : PS X (.Pass pos) (rdS K E sNx) := imp_ps ps_pass fun D σ H ⟨U, ix, A, s, r, p⟩ => p _ _ _ _ r .refl
theorem s_doc {x j pos'} : PS X (.Expr (.Constant (.str x) j pos) pos') (rdS K E sNx) := imp_ps ps_doc fun D σ H ⟨U, ix, A, s, r, p⟩ => p _ _ _ _ r .refl
theorem s_break : PS X (.Break pos) (rdS K E sBk) := imp_ps ps_break fun D σ H ⟨U, ix, A, s, r, p⟩ => p _ _ _ _ r .refl
theorem s_cont : PS X (.Continue pos) (rdS K E sCt) := imp_ps ps_continue fun D σ H ⟨U, ix, A, s, r, p⟩ => p _ _ _ _ r .refl
theorem s_never : PS X st (rdS K E sNo) := imp_ps ps_never fun D σ H ⟨U, ix, A, s, r, p⟩ => p
theorem s_if {c : Expr} {a b : List Stmt} {t : S → R S Bool} (hc : PT X c (rd (kB K) E t)) (ha : PSs X a (rdS K E f)) (hb : PSs X b (rdS K E g)) : PS X (.If c a b pos) (rdS K E (sIf t f g)) := imp_ps (ps_if hc ha hb) fun D σ H ⟨U, ix, A, s, r, p⟩ =>
  ⟨U, ix, A, s, r, PostS.bind p fun b s1 b' ix1 H1 r1 x1 z1 p1 => by
    cases z1
    cases b with
    | true =>
      rw [if_pos rfl] at p1 ⊢
      exact ⟨U, ix1, A, s1, r1, p1⟩
    | false =>
      rw [if_neg Bool.false_ne_true] at p1 ⊢
      exact ⟨U, ix1, A, s1, r1, p1⟩⟩
theorem s_expr {f : EF} (he : PE X e (rd (kW K) E f)) (hs : swapsWith e none pos.line X.env = pure false := by rfl) : PS X (.Expr e pos) (rdS K E (sE f)) := imp_ps (ps_expr he hs) fun D σ H ⟨U, ix, A, s, r, p⟩ =>
  ⟨U, ix, A, s, r, PostS.bind p fun w s1 v ix1 H1 r1 x1 z1 p1 => p1 _ _ _ _ r1 .refl⟩
theorem s_ret {f : EF} (he : PE X e (rd (kW K) E f)) : PS X (.Return (some e) pos) (rdS K E (sRet f)) := imp_ps (ps_ret he) fun D σ H ⟨U, ix, A, s, r, p⟩ =>
  ⟨U, ix, A, s, r, PostS.bind p fun w s1 v ix1 H1 r1 x1 z1 p1 => p1 _ _ _ _ _ r1 .refl z1⟩
theorem s_retN : PS X (.Return none pos) (rdS K E (sRet (eC .none))) := imp_ps ps_retN fun D σ H ⟨U, ix, A, s, r, p⟩ => p _ _ _ _ _ r .refl (.d .non)
/-- name = value -/
theorem s_set_of {i : Nat} {f : EF} {te : TE} (h : PS X st (tAsg te (gName i))) (hi : ∀ σ H Q, rd (kW K) E f σ H Q → te σ H Q) : PS X st (rdS K E (sSet i f)) := imp_ps h fun D σ H ⟨U, ix, A, s, r, p⟩ => by
  refine hi _ _ _ ⟨U, ix, A, s, r, PostS.bind p fun w s1 v ix1 H1 r1 x1 z1 p1 => ?_⟩
  split at p1
  · rename_i hf
    have q := r1.setV i (WR.free _ _ hf z1)
    exact p1 _ _ _ _ q.1 q.2
  · exact p1.elim
theorem s_own_of {i : Nat} {f : LF} {te : TE} (h : PS X st (tAsg te (gName i))) (hi : ∀ σ H Q, rd (kL K) E f σ H Q → te σ H Q) : PS X st (rdS K E (sOwn i f)) := imp_ps h fun D σ H ⟨U, ix, A, s, r, p⟩ => by
  refine hi _ _ _ ⟨U, ix, A, s, r, ?_⟩
  unfold sOwn at p
  revert p
  cases f s with
  | no => exact fun p => p
  | er e m => exact fun p => p
  | ok ws s1 =>
    intro p v ix1 H1 r1 x1 z1
    simp only [bindO] at p
    split at p
    · rename_i hf
      obtain ⟨q, xs, rfl, h0, nu, hq, rq, hw⟩ := z1
      exact p _ _ _ _ (rq.setOwn nu i hq (WRs.frees _ _ hf hw)) (x1.setOwn h0 i)
    · exact p.elim
theorem s_set {i : Nat} {x : Str} {f : EF} {pos' : Pos} (hN : X.N.Nodup) (hi : X.N[i]? = some x) (hx : Loc X.env.scope x) (he : PE X e (rd (kW K) E f)) (hs : swapsWith e (some (.Name x pos')) pos.line X.env = pure false := by rfl) (hf : X.fn x = true ∨ X.env.scope.names.lookup x = some .local := by first | exact .inl rfl | exact .inr rfl | assumption) :
    PS X (.Assign [.Name x pos'] e pos) (rdS K E (sSet i f)) := s_set_of (ps_set hN hi hx he hs hf) fun _ _ _ q => q
theorem s_own {i : Nat} {x : Str} {f : LF} {pos' : Pos} (hN : X.N.Nodup) (hi : X.N[i]? = some x) (hx : Loc X.env.scope x) (he : PE X e (rd (kL K) E f)) (hs : swapsWith e (some (.Name x pos')) pos.line X.env = pure false := by rfl) (hf : X.fn x = true ∨ X.env.scope.names.lookup x = some .local := by first | exact .inl rfl | exact .inr rfl | assumption) :
    PS X (.Assign [.Name x pos'] e pos) (rdS K E (sOwn i f)) := s_own_of (ps_set hN hi hx he hs hf) fun _ _ _ q => q
theorem s_asg {tg : Expr} {f : EF} {g : GF} (he : PE X e (rd (kW K) E f)) (hg : PG X tg (rdG K E g)) (hs : swapsWithSole [tg] e pos.line X.env = pure false := by rfl) (hw : swappedStores [tg] e X.env = pure none := by rfl)
    (h1 : (assignEach [tg] X.env).map (·.2) = [assign tg X.env] := by rfl) : PS X (.Assign [tg] e pos) (rdS K E (sAsg f g)) := imp_ps (ps_asg he hg hs hw h1) fun D σ H ⟨U, ix, A, s, r, p⟩ =>
  ⟨U, ix, A, s, r, PostS.bind p fun w s1 v ix1 H1 r1 x1 z1 p1 => by
    split at p1
    · rename_i hf
      exact ⟨U, ix1, A, s1, w, r1, WR.free _ _ hf z1, PostG.bindO p1 fun s2 σ2 ix2 A2 H2 r2 x2 p2 => p2 _ _ _ _ r2 .refl⟩
    · exact p1.elim⟩
/-- a comprehension given to a name at once -/
theorem s_compO {elt tg iter : Expr} {ifs : List Expr} {scope : Scope} {y x : Str} {py spos : Pos} {i j : Nat} {it : LF} {c : S → R S Bool} {e : EF} (hc : X.calm = true) (hN : X.N.Nodup) (hy : X.N[j]? = some y) (hyl : X.env.scope.names.lookup y = some .local) (hsw : swapsWith (.ListComp elt [⟨tg, iter, ifs, 0⟩] scope pos) (some (.Name y py)) spos.line X.env = pure true) (hi : PI X tg iter (rd (kI K) E it)) (ok : BlkOk X.N X.env.scope scope [(x, i)])
    (hg : ∀ (s : Shared) (H : Hp) (C : Addr) (cl : List (Str × Addr)) (fp : List Addr), PG (X.blk s H scope (compEnvC scope cl C X.env) fp) tg (gName i))
    (ht : ∀ (s : Shared) (H : Hp) (C : Addr) (cl : List (Str × Addr)) (fp : List Addr), PTs (X.blk s H scope (compEnvC scope cl C X.env) fp) ifs (rd (kB K) E0 c))
    (he : ∀ (s : Shared) (H : Hp) (C : Addr) (cl : List (Str × Addr)) (fp : List Addr), PE (X.blk s H scope (compEnvC scope cl C X.env) fp) elt (rd (kW K) E0 e)) (hs : ∀ x, foldedSetIterable iter X.env x = pure x := by intro _; rfl) :
    PS X (.Assign [.Name y py] (.ListComp elt [⟨tg, iter, ifs, 0⟩] scope pos) spos) (rdS K E (sOwn j (eComp it i c e))) := s_own_of (s_comp hc hN hy hyl hsw hi ok hg ht he hs) fun _ _ _ q => comp_imp q
/-- .. as data -/
theorem s_compF {elt tg iter : Expr} {ifs : List Expr} {scope : Scope} {y x : Str} {py spos : Pos} {i j : Nat} {it : LF} {c : S → R S Bool} {e : EF} (hc : X.calm = true) (hN : X.N.Nodup) (hy : X.N[j]? = some y) (hyl : X.env.scope.names.lookup y = some .local) (hsw : swapsWith (.ListComp elt [⟨tg, iter, ifs, 0⟩] scope pos) (some (.Name y py)) spos.line X.env = pure true) (hi : PI X tg iter (rd (kI K) E it)) (ok : BlkOk X.N X.env.scope scope [(x, i)])
    (hg : ∀ (s : Shared) (H : Hp) (C : Addr) (cl : List (Str × Addr)) (fp : List Addr), PG (X.blk s H scope (compEnvC scope cl C X.env) fp) tg (gName i))
    (ht : ∀ (s : Shared) (H : Hp) (C : Addr) (cl : List (Str × Addr)) (fp : List Addr), PTs (X.blk s H scope (compEnvC scope cl C X.env) fp) ifs (rd (kB K) E0 c))
    (he : ∀ (s : Shared) (H : Hp) (C : Addr) (cl : List (Str × Addr)) (fp : List Addr), PE (X.blk s H scope (compEnvC scope cl C X.env) fp) elt (rd (kW K) E0 e)) (hs : ∀ x, foldedSetIterable iter X.env x = pure x := by intro _; rfl) :
    PS X (.Assign [.Name y py] (.ListComp elt [⟨tg, iter, ifs, 0⟩] scope pos) spos) (rdS K E (sSet j (eF (eComp it i c e)))) := s_set_of (s_comp hc hN hy hyl hsw hi ok hg ht he hs) fun σ H Q ⟨U, ix, A, s, r, p⟩ => comp_imp
  ⟨U, ix, A, s, r, Post.bind p fun ws s1 x ix1 H1 r1 x1 z1 p1 => by
    obtain ⟨q, xs, rfl, h0, nu, hq, rq, hw⟩ := z1
    refine p1.done r1 (.mkL hq (fun z => ?_) (WRs.tr trU _ _ hw))
    rcases List.mem_append.mp z with z | z
    · exact nu z
    · exact (rq.un q List.mem_cons_self).1 z⟩
/-- a slot's own list becomes data ahead of a statement -/
theorem s_fz (i : Nat) (h : PS X st (rdS K E f)) : PS X st (rdS K E (sFz i f)) := imp_ps h fun D σ H ⟨U, ix, A, s, r, p⟩ => by
  unfold sFz at p
  split at p
  · rename_i ws e
    have q := r.frz e
    exact ⟨U, ix, _, _, q.1, PostS.mono q.2 p⟩
  · exact p.elim
theorem s_for' {tg iter : Expr} {body : List Stmt} {it : LF} {g : GF} {b : SF} (hp : PassesOwn (model X.prog X.w) X.A X.env X.xe) (hc : X.calm = true) (hi : PI X tg iter (rd (kI K) E it)) (hg : PG X tg (rdG K E g)) (hb : PSs X body (rdS K E b))
    (hs : ∀ x, foldedSetIterable iter X.env x = pure x := by intro _; rfl) : PS X (.For tg iter body [] pos) (rdS K E (sFor it g b)) := imp_ps (s_for hp hc hi hg hb hs) fun D σ H ⟨U, ix, A, s, r, p⟩ => by
  refine ⟨U, ix, A, s, r, PostS.bind p fun ws s1 J ix1 H1 r1 x1 z1 p1 => ?_⟩
  obtain ⟨hfr, n, G, Y, wk, hn, hz, hG, hY⟩ := z1
  refine fo_it wk (fun k σ' H' => ∃ ix' A' s', Rel K U ix' A' σ' H' s' ∧ Ext ix1 A H1 ix' A' H' ∧ PostS K U ix' A' H' E D (loopF g b (ws.drop k) s')) ⟨ix1, A, s1, r1, .refl, by simpa using p1⟩
    (fun k σ' H' hk ⟨ix', A', s', r', x', p'⟩ => hG _ _ _ x'.tr) ?_ ?_
  · intro k x σ' H2 H3 hk ⟨ix', A', s', r', x', p'⟩ y
    obtain ⟨f4, hx⟩ := hY _ _ _ k x H3 x'.tr y
    have hk' : k < ws.length := by omega
    have hxw := hx _ (List.getElem?_eq_getElem hk')
    rw [List.drop_eq_getElem_cons hk'] at p'
    have p2 := PostS.mono (Ext.of0 f4) p'
    refine ⟨U, ix', A', s', _, r'.tr0 f4, hxw, PostG.bindO p2 fun s2 σ2 ix2 A2 H4 r2 x2 p3 => ⟨U, ix2, A2, s2, r2, ?_⟩⟩
    have xx : Ext ix1 A H1 ix2 A2 H4 := (x'.trans (.of0 f4)).trans x2
    revert p3
    cases b s2 with
    | no => exact fun p => p
    | nx s3 => exact fun p σ3 ix3 A3 H5 r3 x3 => ⟨ix3, A3, s3, r3, xx.trans x3, PostS.mono x3 p⟩
    | ct s3 => exact fun p σ3 ix3 A3 H5 r3 x3 => ⟨ix3, A3, s3, r3, xx.trans x3, PostS.mono x3 p⟩
    | bk s3 => exact fun p σ3 ix3 A3 H5 r3 x3 => p _ _ _ _ r3 x3
    | rt w s3 => exact fun p => p
    | er e m => exact fun p => p
  · intro σ' H' ⟨ix', A', s', r', x', p'⟩
    rw [hn, List.drop_length] at p'
    exact p' _ _ _ _ r' .refl
theorem s_wh (n : Nat) {c : Expr} {body : List Stmt} {t : S → R S Bool} {b : SF} (hp : PassesOwn (model X.prog X.w) X.A X.env X.xe) (hc : PT X c (rd (kB K) E t)) (hb : PSs X body (rdS K E b)) : PS X (.While c body [] pos) (rdS K E (sWh n t b)) := imp_ps (ps_while hp hc hb) fun D σ H ⟨U, ix, A, s, r, p⟩ => by
  refine ⟨fun m σ' H' => ∃ ix' A' s', Rel K U ix' A' σ' H' s' ∧ PostS K U ix' A' H' E D (loopW t b m s'), ⟨n, ix, A, s, r, p⟩, ?_⟩
  intro m σ1 H1 ⟨ix1, A1, s1, r1, p1⟩
  cases m with
  | zero => exact p1.elim
  | succ m =>
    simp only [loopW] at p1
    refine ⟨U, ix1, A1, s1, r1, PostS.bind p1 fun t s2 t' ix2 H2 r2 x2 z2 p2 => ?_⟩
    cases z2
    cases t with
    | true =>
      rw [if_pos rfl] at p2 ⊢
      refine ⟨fun σ' H' => ∃ ix' A' s', Rel K U ix' A' σ' H' s' ∧ PostS K U ix' A' H' E D (loopW _ b m s'), fun σ' H' q => ⟨m, Nat.lt_succ_self m, q⟩, U, ix2, A1, s2, r2, ?_⟩
      revert p2
      cases b s2 with
      | no => exact fun p => p
      | nx s3 => exact fun p σ3 ix3 A3 H5 r3 x3 => ⟨ix3, A3, s3, r3, PostS.mono x3 p⟩
      | ct s3 => exact fun p σ3 ix3 A3 H5 r3 x3 => ⟨ix3, A3, s3, r3, PostS.mono x3 p⟩
      | bk s3 => exact fun p σ3 ix3 A3 H5 r3 x3 => p _ _ _ _ r3 x3
      | rt w s3 => exact fun p => p
      | er e m => exact fun p => p
    | false =>
      rw [if_neg Bool.false_ne_true] at p2 ⊢
      exact p2 _ _ _ _ r2 .refl
theorem s_par {i j : Nat} {f g : EF} {ta : TA} {ea eb : Expr} (h : PS X st (tPar i j ta)) (ht : ta = tCons (rd (kW K) E f) (tCons (rd (kW K) E g) tNil)) : PS X st (rdS K E (sPar i j f g)) := by
  subst ht
  refine imp_ps h fun D σ H ⟨U, ix, A, s, r, p⟩ => ⟨U, ix, A, s, r, PostS.bind p fun a s1 x ix1 H1 r1 x1 z1 p1 => ⟨U, ix1, A, s1, r1, PostS.bind p1 fun b s2 y ix2 H2 r2 x2 z2 p2 => ?_⟩⟩
  split at p2
  · rename_i hf
    have q1 := r2.setV i (WR.free _ _ hf.1 (WR.tr x2.tr _ _ z1))
    have q2 := q1.1.setV j (WR.tr q1.2.tr _ _ (WR.free _ _ hf.2 z2))
    exact ⟨x, y, rfl, p2 _ _ _ _ q2.1 (q1.2.trans q2.2)⟩
  · exact p2.elim
theorem s_parL {i j : Nat} {f g : LF} {ta : TA} {ea eb : Expr} (h : PS X st (tPar i j ta)) (ht : ta = tCons (rd (kL K) E f) (tCons (rd (kL K) E g) tNil)) : PS X st (rdS K E (sParL i j f g)) := by
  subst ht
  refine imp_ps h fun D σ H ⟨U, ix, A, s, r, p⟩ => ⟨U, ix, A, s, r, ?_⟩
  unfold sParL at p
  revert p
  cases f s with
  | no => exact fun p => p
  | er e m => exact fun p => p
  | ok a s1 =>
    intro p x ix1 H1 r1 x1 z1
    obtain ⟨q, xs, rfl, h0, nu, hq, rq, hw⟩ := z1
    simp only [bindO] at p
    refine ⟨q :: U, ix1, A, s1, rq, ?_⟩
    revert p
    cases g s1 with
    | no => exact fun p => p
    | er e m => exact fun p => fun c d ix' A' H' r u y z => p c d ix' A' H' (by
        refine ⟨r.len, fun n b a h1 h2 => BR.tr (trs (A' := A) (fun _ _ h => h) fun _ h => List.mem_cons_of_mem _ h) (fun o h => h) (r.box n b a h1 h2)⟩) ⟨u.1, fun u' hu' => u.2 u' (List.mem_cons_of_mem _ hu')⟩ (x1.trans y) (by
        refine ⟨z.1, ?_⟩
        have z2 := z.2
        revert z2
        cases e.f with
        | none => exact fun h => h
        | some xw => exact fun ⟨p, v, h1, h2, h3⟩ => ⟨p, v, h1, h2, WR.tr (trs (A' := A) (fun _ _ h => h) fun _ h => List.mem_cons_of_mem _ h) _ _ h3⟩)
    | ok b s2 =>
      intro p y ix2 H2 r2 x2 z2
      obtain ⟨q2, ys, rfl, h02, nu2, hq2, rq2, hw2⟩ := z2
      simp only [bindO] at p
      split at p
      · rename_i hf
        have hq' : H2 q = some (.lst xs) := x2.fr.atL hq (rq.un q List.mem_cons_self).1
        have ne : q2 ≠ q := fun z => by
          rw [z, vis_of hq] at h02
          cases h02
        -- the first, then the second
        have w1 : WRs K ix2 [] (avo (q :: q2 :: U) ix2 A) H2 xs a := by
          have := WRs.frees _ _ hf.1 hw
          have t1 : Tr K ix1 (avo (q :: U) ix1 A) H1 ix2 (avo (q2 :: q :: U) ix2 A) H2 := Ext.trD x2 h02
          exact WRs.tr (trs (A' := A) (fun _ _ h => h) fun z h => by
            rcases List.mem_append.mp h with h | h
            · refine List.mem_append_left _ ?_
              simp only [List.mem_cons] at h ⊢
              rcases h with h | h | h
              · exact .inr (.inl h)
              · exact .inl h
              · exact .inr (.inr h)
            · exact List.mem_append_right _ h) _ _ (WRs.tr t1 _ _ this)
        have rr : Rel K (q :: q2 :: U) ix2 A σ H2 s2 := by
          have t1 : Tr K ix2 (avo (q2 :: q :: U) ix2 A) H2 ix2 (avo (q :: q2 :: U) ix2 A) H2 := trs (A' := A) (fun _ _ h => h) fun z h => by
            rcases List.mem_append.mp h with h | h
            · refine List.mem_append_left _ ?_
              simp only [List.mem_cons] at h ⊢
              rcases h with h | h | h
              · exact .inr (.inl h)
              · exact .inl h
              · exact .inr (.inr h)
            · exact List.mem_append_right _ h
          refine ⟨⟨rq2.mem.len, fun n b a h1 h2 => BR.tr t1 (fun o h => h) (rq2.mem.box n b a h1 h2)⟩, .of rq2.slo.len.1 rq2.slo.len.2 fun i o oa sl h1 h2 h3 => ?_, rq2.nd, fun u hu => rq2.un u ?_⟩
          · obtain ⟨o', oa', e1, e2, h⟩ := rq2.slo.get h3
            rw [h1] at e1
            rw [h2] at e2
            cases e1
            cases e2
            exact SR.tr t1 (fun c hc u hu => hu) h
          · simp only [List.mem_cons] at hu ⊢
            rcases hu with h | h | h
            · exact .inr (.inl h)
            · exact .inl h
            · exact .inr (.inr h)
        have n1 : q ∉ q2 :: U := fun z => by
          rcases List.mem_cons.mp z with z | z
          · exact ne z.symm
          · exact nu z
        have r3 := rr.setOwn n1 i hq' w1
        have n2 : q2 ∉ U := fun z => nu2 (List.mem_cons_of_mem _ z)
        have w2 : WRs K ix2 [] (avo (q2 :: U) ix2 (A.set i (some q))) H2 ys b := WRs.tr (trs (A' := A) (fun _ _ h => h) fun z h => by
          rcases List.mem_append.mp h with h | h
          · refine List.mem_append_left _ ?_
            simp only [List.mem_cons] at h ⊢
            rcases h with h | h
            · exact .inl h
            · exact .inr (.inr h)
          · rcases List.mem_append.mp h with h | h
            · exact List.mem_append_right _ (List.mem_append_left _ h)
            · rcases ow_some A i z h with h | h
              · rw [h]
                exact List.mem_append_left _ (List.mem_cons_of_mem _ List.mem_cons_self)
              · exact List.mem_append_right _ (List.mem_append_right _ h)) _ _ (WRs.frees _ _ hf.2 hw2)
        have r4 := r3.setOwn n2 j hq2 w2
        refine ⟨_, _, rfl, p _ _ _ _ r4 ?_⟩
        have xx : Ext ix A H ix2 (A.set i (some q)) H2 := (x1.trans x2).setOwn h0 i
        refine xx.setOwn (p := q2) (x1.fr.free h02 fun z => ?_) j
        have := (rq2.un q2 List.mem_cons_self).1
        refine this ?_
        rcases List.mem_append.mp z with z | z
        · obtain ⟨n, hn⟩ := List.getElem?_of_mem z
          exact List.mem_append_left _ (List.mem_of_getElem? (x2.pre _ _ (x1.pre _ _ hn)))
        · exact List.mem_append_right _ z
      · exact p.elim
end
end FE

/-! FE6: defs, calls, objects. -/
namespace FE
open PySem PySem.Spec PyProof.Rows L2 KR
def liftF : R M W → R S W
  | .no => .no
  | .ok w m => .ok w ⟨[], m⟩
  | .er e m => .er e m
/-- the promise of a def that computes F -/
def spF (K : Fg) (n : Nat) (F : FF) : Sp := fun vs H Q E => ∃ U ix m ws, Rel K U ix [] [] H ⟨[], m⟩ ∧ WRs K ix [] (avo U ix []) H vs ws ∧ ws.length = n ∧ Post (kW K) U ix [] [] H E Q (liftF (F ws m))
def callF (n : Nat) (F : FF) (ws : List W) (s : S) : R S W := if ws.length = n ∧ frees ws = true then (match F ws s.m with
  | .no => .no
  | .ok w m => .ok w { s with m := m }
  | .er e m => .er e m) else .no
def eCall (n : Nat) (F : FF) (f : LF) (s : S) : R S W := (f s).bind fun ws s => callF n F ws s
/-- o.m(..), o an instance of the class c -/
def eMet (c x : Str) (n : Nat) (F : FF) (o : EF) (f : LF) (s : S) : R S W := (o s).bind fun w s => match w with
  | .ref a => match s.m[a]? with
    | some (.ins c' fs) => if c' = c ∧ fs.lookup x = none then (f s).bind fun ws s => callF n F (.ref a :: ws) s else .no
    | _ => .no
  | _ => .no
/-- a new instance -/
def eMak (c : Str) (n : Nat) (F : FF) (f : LF) (s : S) : R S W := (f s).bind fun ws s => if ws.length + 1 = n ∧ frees ws = true then (match F (.ref s.m.length :: ws) (s.m ++ [.ins c []]) with
  | .ok (.d .none) m => .ok (.ref s.m.length) { s with m := m }
  | .er e m => .er e m
  | _ => .no) else .no
def eGet (c x : Str) (o : EF) (s : S) : R S W := (o s).bind fun w s => match w with
  | .ref a => match s.m[a]? with
    | some (.ins c' fs) => if c' = c then (match fs.lookup x with
      | some w => .ok w s
      | none => .no) else .no
    | _ => .no
  | _ => .no
def putW (f : Str) (v : W) : List (Str × W) → List (Str × W)
  | [] => [(f, v)]
  | (g, x) :: r => if g = f then (g, v) :: r else (g, x) :: putW f v r
def sFld (c x : Str) (o f : EF) (s : S) : O := bindO (f s) fun v s => bindO (o s) fun w s => match w with
  | .ref a => match s.m[a]? with
    | some (.ins c' fs) => if c' = c ∧ fs.length < 1000 ∧ free v = true then .nx { s with m := s.m.set a (.ins c (putW x v fs)) } else .no
    | _ => .no
  | _ => .no
/-- what is handed back: a slot's own list becomes data -/
def finE (s : S) : W → Option W
  | .own i => match s.sl[i]? with
    | some (.own ws) => some (mkL ws)
    | _ => none
  | w => if free w = true then some w else none
def finEs (s : S) : List W → Option (List W)
  | [] => some []
  | w :: ws => match finE s w, finEs s ws with
    | some a, some r => some (a :: r)
    | _, _ => none
def finW (s : S) : W → Option W
  | .tw ws => match finEs s ws with
    | some r => some (mkT r)
    | none => none
  | w => finE s w
def fnF (N n : Nat) (g : SF) (ws : List W) (m : M) : R M W := if ws.length = n then (match g ⟨ws.map .v ++ List.replicate (N - n) .no, m⟩ with
  | .nx s => .ok (.d .none) s.m
  | .rt w s => match finW s w with
    | some r => .ok r s.m
    | none => .no
  | .er e m => .er e m
  | _ => .no) else .no
section
variable {K : Fg} {U ix : List Addr} {A : List (Option Addr)} {H : Hp} {ix' : List Addr} {A' : List (Option Addr)} {H' : Hp} {σ : L2.St} {s : S}
theorem av_down (a : Addr) : a ∈ avo (U ++ ow A) ix [] ↔ a ∈ avo U ix A := by
  show a ∈ (U ++ ow A) ++ (ix ++ []) ↔ a ∈ U ++ (ix ++ ow A)
  simp only [List.mem_append, List.append_nil]
  constructor
  · rintro ((h | h) | h)
    · exact .inl h
    · exact .inr (.inr h)
    · exact .inr (.inl h)
  · rintro (h | h | h)
    · exact .inl (.inl h)
    · exact .inr h
    · exact .inl (.inr h)
theorem Rel.down (r : Rel K U ix A σ H s) : Rel K (U ++ ow A) ix [] [] H ⟨[], s.m⟩ := by
  have t : Tr K ix (avo U ix A) H ix (avo (U ++ ow A) ix []) H := trs (A' := A) (fun _ _ h => h) fun a h => av_down a |>.mp h
  refine ⟨⟨r.mem.len, fun n b a h1 h2 => BR.tr t (fun o h => h) (r.mem.box n b a h1 h2)⟩, .nil, ?_, fun u hu => ?_⟩
  · show (ix ++ []).Nodup
    rw [List.append_nil]
    exact (List.nodup_append.mp r.nd).1
  · show u ∉ ix ++ [] ∧ _
    rw [List.append_nil]
    rcases List.mem_append.mp hu with h | h
    · exact ⟨fun z => (r.un u h).1 (List.mem_append_left _ z), (r.un u h).2⟩
    · exact ⟨fun z => r.disj z h, r.trkO u h⟩
theorem Ext.up (x : Ext ix [] H ix' [] H') : Ext ix A H ix' A H' := ⟨x.pre, fun a h => by
  rcases List.mem_append.mp h with h | h
  · rcases x.new a (List.mem_append_left _ h) with q | q
    · refine .inl (List.mem_append_left _ ?_)
      rcases List.mem_append.mp q with q | q
      · exact q
      · cases q
    · exact .inr q
  · exact .inl (List.mem_append_right _ h), x.fr.mono fun b h => by
  rcases List.mem_append.mp h with h | h
  · exact List.mem_append_left _ h
  · cases h⟩
theorem Rel.up {m : M} (r0 : Rel K U ix A σ H s) (r : Rel K (U ++ ow A) ix' [] [] H' ⟨[], m⟩) (x : Ext ix [] H ix' [] H') : Rel K U ix' A σ H' { s with m := m } := by
  have t : Tr K ix' (avo (U ++ ow A) ix' []) H' ix' (avo U ix' A) H' := trs (A' := A) (fun _ _ h => h) fun a h => av_down a |>.mpr h
  have t2 : Tr K ix (avo U ix A) H ix' (avo U ix' A) H' := (trs (A' := A) (fun _ _ h => h) fun a h => (av_down a).mp h : Tr K ix (avo U ix A) H ix (avo (U ++ ow A) ix []) H).trans (x.tr.trans t)
  refine ⟨⟨r.mem.len, fun n b a h1 h2 => BR.tr t (fun o h => h) (r.mem.box n b a h1 h2)⟩, .of r0.slo.len.1 r0.slo.len.2 fun i o oa sl h1 h2 h3 => ?_, ?_, fun u hu => ?_⟩
  · obtain ⟨o', oa', e1, e2, h⟩ := r0.slo.get h3
    rw [h1] at e1
    rw [h2] at e2
    cases e1
    cases e2
    refine SR.tr t2 (fun c hc u hu => x.fr.atL hu fun z => ?_) h
    have hc' : c ∈ ow A := ow_get (by rw [h2, hc])
    rcases List.mem_append.mp z with z | z
    · exact r0.disj z hc'
    · cases z
  · refine List.nodup_append.mpr ⟨?_, (List.nodup_append.mp r0.nd).2.1, fun a ha b hb z => ?_⟩
    · have := r.nd
      exact (List.nodup_append.mp this).1
    · subst z
      exact (r.un a (List.mem_append_right _ hb)).1 (List.mem_append_left _ ha)
  · have h := r.un u (List.mem_append_left _ hu)
    refine ⟨fun z => ?_, h.2⟩
    rcases List.mem_append.mp z with z | z
    · exact h.1 (List.mem_append_left _ z)
    · exact (r0.un u hu).1 (List.mem_append_right _ z)
theorem PostE.down {E : XK} {e : Er} {m : M} (p : PostE K U ix A H E e m) : PostE K (U ++ ow A) ix [] H E e m := fun c d ix' A' H' r u x z => by
  have t : Tr K ix' (avo (U ++ ow A) ix' A') H' ix' (avo U ix' A') H' := trs (A' := A) (fun _ _ h => h) fun a h => by
    rcases List.mem_append.mp h with h | h
    · exact List.mem_append_left _ (List.mem_append_left _ h)
    · exact List.mem_append_right _ h
  refine p c d ix' A' H' ⟨r.len, fun n b a h1 h2 => BR.tr t (fun o h => h) (r.box n b a h1 h2)⟩ ⟨u.1, fun v hv => u.2 v (List.mem_append_left _ hv)⟩ ⟨x.pre, fun a h => ?_, x.fr.mono fun b h => ?_⟩ ⟨z.1, ?_⟩
  · rcases x.new a h with q | q
    · refine .inl (List.mem_append_left _ ?_)
      rcases List.mem_append.mp q with q | q
      · exact q
      · cases q
    · exact .inr q
  · rcases List.mem_append.mp h with h | h
    · exact List.mem_append_left _ h
    · cases h
  · have z2 := z.2
    revert z2
    cases e.f with
    | none => exact fun h => h
    | some xw => exact fun ⟨p, v, h1, h2, h3⟩ => ⟨p, v, h1, h2, WR.tr t _ _ h3⟩
/-- a call -/
theorem callF_ok {E : XK} {Q : VK} {n : Nat} {F : FF} {ws : List W} {vs : List V} (r : Rel K U ix A σ H s) (hw : WRs K ix A (avo U ix A) H vs ws) (p : Post (kW K) U ix A σ H E Q (callF n F ws s)) : spF K n F vs H Q E := by
  unfold callF at p
  split at p
  · rename_i hc
    refine ⟨U ++ ow A, ix, s.m, ws, r.down, WRs.tr (trs (A' := A) (fun _ _ h => h) fun a h => (av_down a).mp h) _ _ (WRs.frees _ _ hc.2 hw), hc.1, ?_⟩
    revert p
    cases F ws s.m with
    | no => exact fun p => p
    | ok w m =>
      intro p v ix' H' r' x' z'
      refine p v ix' H' (r.up r' x') x'.up ?_
      exact WR.lift _ _ (WR.tr (trs (A' := A) (fun _ _ h => h) fun a h => (av_down a).mpr h) _ _ (show WR K ix' [] (avo (U ++ ow A) ix' []) H' v w from z'))
    | er e m => exact fun p => PostE.down p
  · exact p.elim
theorem finE_ok {v : V} {w w' : W} (r : Rel K U ix A σ H s) (h : WR K ix A (avo U ix A) H v w) (e : finE s w = some w') : WR K ix [] (avo U ix []) H v w' := by
  have t : Tr K ix (avo U ix A) H ix (avo U ix []) H := trs (A' := A) (fun _ _ h => h) fun a h => by
    rcases List.mem_append.mp h with h | h
    · exact List.mem_append_left _ h
    · rcases List.mem_append.mp h with h | h
      · exact List.mem_append_right _ (List.mem_append_left _ h)
      · cases h
  have oth : (if free w = true then some w else none) = some w' → WR K ix [] (avo U ix []) H v w' := fun e => by
    split at e
    · rename_i hf
      cases e
      exact WR.tr t _ _ (WR.free _ _ hf h)
    · cases e
  cases w with
  | own i =>
    unfold finE at e
    cases h with
    | @own i a h =>
      cases q : s.sl[i]? with
      | none => simp only [q] at e; cases e
      | some b =>
        obtain ⟨o, oa, h1, h2, hb⟩ := r.slo.get q
        rw [h] at h2
        cases h2
        cases b with
        | own ws =>
          simp only [q] at e
          cases e
          obtain ⟨a', xs, e1, _, h1, h2⟩ := hb
          cases e1
          refine .mkL h1 (fun z => ?_) (WRs.tr t _ _ h2)
          rcases List.mem_append.mp z with z | z
          · exact (r.un _ z).1 (List.mem_append_right _ (ow_get h))
          · rcases List.mem_append.mp z with z | z
            · exact r.disj z (ow_get h)
            · cases z
        | no => simp only [q] at e; cases e
        | v _ => simp only [q] at e; cases e
  | d x => exact oth e
  | ref n => exact oth e
  | scr ns => exact oth e
  | adr a => exact oth e
  | tw ws => exact oth e
  | lw ws => exact oth e
theorem finEs_ok (r : Rel K U ix A σ H s) : ∀ {ws ws' : List W} {vs : List V}, WRs K ix A (avo U ix A) H vs ws → finEs s ws = some ws' → WRs K ix [] (avo U ix []) H vs ws'
  | [], _, _, h, e => by
    cases h
    cases e
    exact .nil
  | w :: ws, _, _, h, e => by
    cases h with
    | cons h1 h2 =>
      simp only [finEs] at e
      split at e
      · rename_i a b e1 e2
        cases e
        exact .cons (finE_ok r h1 e1) (finEs_ok r h2 e2)
      · cases e
theorem finW_ok {v : V} {w w' : W} (r : Rel K U ix A σ H s) (h : WR K ix A (avo U ix A) H v w) (e : finW s w = some w') : WR K ix [] (avo U ix []) H v w' := by
  cases w with
  | tw ws =>
    simp only [finW] at e
    cases q : finEs s ws with
    | none => rw [q] at e; cases e
    | some r' =>
      rw [q] at e
      cases e
      cases h with
      | tw h1 h2 => exact .mkT h1 (finEs_ok r h2 q)
  | own i => exact finE_ok r h e
  | d x => exact finE_ok r h e
  | ref n => exact finE_ok r h e
  | scr ns => exact finE_ok r h e
  | adr a => exact finE_ok r h e
  | lw ws => exact finE_ok r h e
/-- at the entry -/
theorem ow_rep (n : Nat) : ow (List.replicate n none) = [] := by
  induction n with
  | zero => rfl
  | succ n ih => exact ih
theorem SRs_rep {av : List Addr} : ∀ n : Nat, SRs K ix av H (List.replicate n none) (List.replicate n none) (List.replicate n .no)
  | 0 => .nil
  | n + 1 => .cons rfl (SRs_rep n)
theorem SRs_args {av : List Addr} (k : Nat) : ∀ {vs : List V} {ws : List W}, WRs K ix [] av H vs ws → SRs K ix av H (vs.map some ++ List.replicate k none) (List.replicate (vs.length + k) none) (ws.map .v ++ List.replicate k .no)
  | [], [], .nil => by
    rw [List.length_nil, Nat.zero_add]
    exact SRs_rep k
  | v :: vs, w :: ws, .cons h r => by
    have := SRs_args k r
    rw [List.length_cons, show vs.length + 1 + k = (vs.length + k) + 1 by omega, List.replicate_succ]
    exact .cons ⟨rfl, v, rfl, h⟩ this
theorem Ext.down' {B : List (Option Addr)} (hB : ow B = []) (x : Ext ix B H ix' A' H') : Ext ix [] H ix' [] H' := by
  have e : ix ++ ow B = ix ++ ow ([] : List (Option Addr)) := by rw [hB]; rfl
  refine ⟨x.pre, fun a h => ?_, ?_⟩
  · rw [← e]
    refine x.new a ?_
    rcases List.mem_append.mp h with h | h
    · exact List.mem_append_left _ h
    · cases h
  · rw [← e]
    exact x.fr
theorem Rel.leave (r : Rel K U ix A σ H s) : Rel K U ix [] [] H ⟨[], s.m⟩ := by
  have t : Tr K ix (avo U ix A) H ix (avo U ix []) H := trs (A' := A) (fun _ _ h => h) fun a h => by
    rcases List.mem_append.mp h with h | h
    · exact List.mem_append_left _ h
    · rcases List.mem_append.mp h with h | h
      · exact List.mem_append_right _ (List.mem_append_left _ h)
      · cases h
  refine ⟨⟨r.mem.len, fun n b a h1 h2 => BR.tr t (fun o h => h) (r.mem.box n b a h1 h2)⟩, .nil, ?_, fun u hu => ⟨fun z => (r.un u hu).1 ?_, (r.un u hu).2⟩⟩
  · show (ix ++ []).Nodup
    rw [List.append_nil]
    exact (List.nodup_append.mp r.nd).1
  · rcases List.mem_append.mp z with z | z
    · exact List.mem_append_left _ z
    · cases z
theorem fnF_ok {E : XK} {Q : VK} {N : List Str} {n : Nat} {g : SF} {vs : List V} (sp : spF K n (fnF N.length n g) vs H Q E) : rdS K E g { nx := fun _ H' => Q .non H', rt := Q } (L2.start N vs) H := by
  obtain ⟨U, ix, m, ws, r, hw, hn, p⟩ := sp
  have hlen := WRs.len hw
  unfold fnF at p
  rw [if_pos hn] at p
  have hB : ow (List.replicate (vs.length + (N.length - n)) (none : Option Addr)) = [] := ow_rep _
  have eav : avo U ix (List.replicate (vs.length + (N.length - n)) none) = avo U ix [] := by
    show U ++ (ix ++ ow _) = U ++ (ix ++ ow _)
    rw [hB]
    rfl
  refine ⟨U, ix, List.replicate (vs.length + (N.length - n)) none, ⟨ws.map .v ++ List.replicate (N.length - n) .no, m⟩, ⟨?_, ?_, ?_, ?_⟩, ?_⟩
  · rw [eav]
    exact r.mem
  · rw [eav]
    show SRs K ix _ H (vs.map some ++ List.replicate (N.length - vs.length) none) _ _
    rw [show N.length - vs.length = N.length - n by omega]
    exact SRs_args _ hw
  · rw [hB]
    exact r.nd
  · rw [hB]
    exact r.un
  · revert p
    cases g ⟨ws.map .v ++ List.replicate (N.length - n) .no, m⟩ with
    | no => exact fun p => p
    | nx s => exact fun p σ' ix' A' H' r' x' => p .non ix' H' r'.leave (x'.down' hB) (.d .non)
    | bk s => exact fun p => p.elim
    | ct s => exact fun p => p.elim
    | rt w s =>
      intro p v σ' ix' A' H' r' x' z'
      simp only at p
      cases q : finW s w with
      | none => rw [q] at p; exact p.elim
      | some w' =>
        rw [q] at p
        exact p v ix' H' r'.leave (x'.down' hB) (finW_ok r' z' q)
    | er e m' =>
      intro p c d ix' A' H' r' u' x' z'
      refine p c d ix' A' H' r' u' ⟨x'.pre, fun a h => ?_, ?_⟩ z'
      · have := x'.new a h
        rw [hB] at this
        exact this
      · have := x'.fr
        rw [hB] at this
        exact this
end
section
variable {X : Cx} {K : Fg} {E : XK} {pos : Pos} {j k n : Nat} {x m : Str} {F : FF} {p apos : Pos} {e o : Expr} {es : List Expr} {t : LF} {f : EF}
theorem f_call (c : Cal X.prog X.w X.K X.mg X.base k x (spF K n F)) (hr : Room j X.A) (hk : k ≤ j) (hg : Gl X x) (hx : Passes (L2.CX X.prog X.w) X E) (ha : PA X (e :: es) (rd (kA K) E t))
    (hdb : (x == ("__debug__" : Str)) = false := by decide) (he : starEach (e :: es) X.env = (false, eval e X.env) :: starEach es X.env := by rfl) (hpl : (backTo pos (starEach es X.env)).any (·.1) = false := by rfl) :
    PE X (.Call (.Name x p) (e :: es) [] pos) (rd (kW K) E (eCall n F t)) := imp_te (cal c hr hk hg hx ha hdb he hpl) fun σ H Q ⟨U, ix, A, s, r, p⟩ =>
  ⟨U, ix, A, s, r, Post.bind p fun ws s1 vs ix1 H1 r1 x1 z1 p1 => callF_ok r1 z1 p1⟩
theorem f_call0 (c : Cal X.prog X.w X.K X.mg X.base k x (spF K n F)) (hr : Room j X.A) (hk : k ≤ j) (hg : Gl X x) (hx : Passes (L2.CX X.prog X.w) X E)
    (hdb : (x == ("__debug__" : Str)) = false := by decide) : PE X (.Call (.Name x p) [] [] pos) (rd (kW K) E (eCall n F aNil)) := imp_te (cal0 c hr hk hg hx hdb) fun σ H Q ⟨U, ix, A, s, r, p⟩ => callF_ok r .nil p
theorem met_imp {c : Str} {ta : TA} (ht : ∀ σ H Q, rd (kA K) E t σ H Q → ta σ H Q) {σ : L2.St} {H : Hp} {Q : VK} (q : rd (kW K) E (eMet c m n F f t) σ H Q) : tMet (He.ga K c) m (spF K n F) E (rd (kW K) E f) ta σ H Q := by
  obtain ⟨U, ix, A, s, r, p⟩ := q
  refine ⟨U, ix, A, s, r, Post.bind p fun w s1 v ix1 H1 r1 x1 z1 p1 => ?_⟩
  split at p1
  · rename_i a
    split at p1
    · rename_i c' fs q
      split at p1
      · rename_i hc
        obtain ⟨rfl, hl⟩ := hc
        cases z1 with
        | @ref _ ad h =>
          obtain ⟨dx, gs, h1, h2⟩ := r1.mem.box a _ ad q h
          refine ⟨ad, dx, gs, rfl, h1, NRs.none (g := id) (fun _ _ h => h) h2 hl, ht _ _ _ ⟨U, ix1, A, s1, r1, Post.bind p1 fun ws s2 vs ix2 H2 r2 x2 z2 p2 => callF_ok r2 (.cons (.ref (x2.pre _ _ h)) z2) p2⟩⟩
      · exact p1.elim
    · exact p1.elim
  · exact p1.elim
theorem f_met {c : Str} {pl : Sem Bool} (c' : Met X.prog X.w X.K X.mg X.base k (He.ga K c) m (spF K n F)) (ho : PE X o (rd (kW K) E f)) (hr : Room j X.A) (hk : k ≤ j) (hx : Passes (L2.CX X.prog X.w) X E) (ha : PA X (e :: es) (rd (kA K) E t))
    (hst : starEach (e :: es) X.env = (false, eval e X.env) :: starEach es X.env := by rfl) (hpl : (backTo pos (starEach es X.env)).any (·.1) = false := by rfl)
    (ht : eval (.Call (.Attribute o m apos) (e :: es) [] pos) X.env = (do
      let ov ← eval o X.env
      standAt apos.atName
      let (f, first) ← holding [ov] (getMethod ov m pl)
      callWith pos f first (backTo pos (starEach (e :: es) X.env)) (backToKw pos (keywordEach [] X.env))) := by rfl) :
    PE X (.Call (.Attribute o m apos) (e :: es) [] pos) (rd (kW K) E (eMet c m n F f t)) := imp_te (met c' ho hr hk hx ha hst hpl ht) fun _ _ _ q => met_imp (fun _ _ _ h => h) q
theorem f_met0 {c : Str} {pl : Sem Bool} (c' : Met X.prog X.w X.K X.mg X.base k (He.ga K c) m (spF K n F)) (ho : PE X o (rd (kW K) E f)) (hr : Room j X.A) (hk : k ≤ j) (hx : Passes (L2.CX X.prog X.w) X E)
    (ht : eval (.Call (.Attribute o m apos) [] [] pos) X.env = (do
      let ov ← eval o X.env
      standAt apos.atName
      let (f, first) ← holding [ov] (getMethod ov m pl)
      callWith pos f first (backTo pos (starEach [] X.env)) (backToKw pos (keywordEach [] X.env))) := by rfl) :
    PE X (.Call (.Attribute o m apos) [] [] pos) (rd (kW K) E (eMet c m n F f aNil)) := imp_te (met0 c' ho hr hk hx ht) fun _ _ _ q => met_imp (fun σ H Q ⟨U, ix, A, s, r, p⟩ => p.done r .nil) q
theorem f_mak {c : Str} (c' : Mak X.prog X.w X.K X.mg X.base k x (He.ga K c) (spF K n F)) (hr : Room j X.A) (hk : k + 1 ≤ j) (hg : Gl X x) (hx : Passes (L2.CX X.prog X.w) X E) (ha : PA X (e :: es) (rd (kA K) E t))
    (hdb : (x == ("__debug__" : Str)) = false := by decide) (he : starEach (e :: es) X.env = (false, eval e X.env) :: starEach es X.env := by rfl) (hpl : (backTo pos (starEach es X.env)).any (·.1) = false := by rfl) :
    PE X (.Call (.Name x p) (e :: es) [] pos) (rd (kW K) E (eMak c n F t)) := imp_te (e_mak c' hr hk hg hx ha hdb he hpl) fun σ H Q ⟨U, ix, A, s, r, p⟩ => by
  refine ⟨U, ix, A, s, r, Post.bind p fun ws s1 vs ix1 H1 r1 x1 z1 p1 => fun a dx H2 hn f2 h2 => ?_⟩
  split at p1
  · rename_i hc
    have rs := r1.res hn f2 h2
    have nu : a ∉ U := fun z => by
      obtain ⟨o, q⟩ := (r1.un a z).2
      rw [vis_none hn] at q
      cases q
    have rb := rs.box (b := .ins c []) nu ⟨dx, [], h2, .nil⟩ ⟨_, h2⟩
    have hx2 : Ext ix1 A H1 (ix1 ++ [a]) A H2 := (Ext.of0 f2).box (vis_none hn)
    have hga : (ix1 ++ [a])[s1.m.length]? = some a := by
      rw [← r1.mem.len, List.getElem?_append_right (Nat.le_refl _), Nat.sub_self]
      rfl
    have hw2 : WRs K (ix1 ++ [a]) [] (avo (U ++ ow A) (ix1 ++ [a]) []) H2 vs ws := WRs.tr (trs (A' := A) (fun _ _ h => h) fun a h => (av_down a).mp h) _ _ (WRs.tr hx2.tr _ _ (WRs.frees _ _ hc.2 z1))
    refine ⟨U ++ ow A, ix1 ++ [a], s1.m ++ [.ins c []], .ref s1.m.length :: ws, rb.down, .cons (.ref hga) hw2, hc.1, ?_⟩
    revert p1
    cases F (.ref s1.m.length :: ws) (s1.m ++ [.ins c []]) with
    | no => exact fun p => p
    | ok w m =>
      intro p v ix' H' r' x' z'
      split at p
      · rename_i q
        cases q
        refine ⟨WR.non z', ?_⟩
        exact p (.ref a) ix' H' (rb.up r' x') (hx2.trans x'.up) (.ref (x'.pre _ _ hga))
      · rename_i q
        cases q
      · exact p.elim
    | er e m => exact fun p => PostE.down (PostE.mono hx2 p)
  · exact p1.elim
theorem f_get {c fld : Str} (cl : Cls X.K (He.ga K c)) (na : NoAttr X.K (He.ga K c) fld) (he : PE X e (rd (kW K) E f)) (hb : attributeBase e fld X.env (eval e X.env) = eval e X.env := by rfl) : PE X (.Attribute e fld pos) (rd (kW K) E (eGet c fld f)) :=
  imp_te (e_get cl na he hb) fun σ H Q ⟨U, ix, A, s, r, p⟩ => by
  refine ⟨U, ix, A, s, r, Post.bind p fun w s1 v ix1 H1 r1 x1 z1 p1 => ?_⟩
  split at p1
  · rename_i a
    split at p1
    · rename_i c' fs q
      split at p1
      · rename_i hc
        subst hc
        split at p1
        · rename_i w' hl
          cases z1 with
          | @ref _ ad h =>
            obtain ⟨dx, gs, h1, h2⟩ := r1.mem.box a _ ad q h
            obtain ⟨v, h3, h4⟩ := NRs.get (g := id) (fun _ _ h => h) h2 hl
            exact ⟨ad, dx, gs, v, rfl, h1, h3, p1.done r1 (WR.lift _ _ h4)⟩
        · exact p1.elim
      · exact p1.elim
    · exact p1.elim
  · exact p1.elim
theorem NRs.putF {ix av : List Addr} {H : Hp} {fl : Str} {v : V} {w : W} (h : WR K ix [] av H v w) : ∀ {vs : List (Str × V)} {ws : List (Str × W)}, NRs K ix av H id vs ws → NRs K ix av H id (L2.putF fl v vs) (putW fl w ws)
  | _, _, .nil => .cons h .nil
  | _, _, .cons (x := y) h1 r => by
    show NRs K ix av H id (if y = fl then _ else _) (if y = fl then _ else _)
    by_cases e : y = fl
    · rw [if_pos e, if_pos e]
      exact .cons h r
    · rw [if_neg e, if_neg e]
      exact .cons h1 (NRs.putF h r)
theorem s_fld' {c fld : Str} {value : Expr} {pos' : Pos} {g : EF} (cl : Cls X.K (He.ga K c)) (na : NoAttr X.K (He.ga K c) fld) (ho : PE X o (rd (kW K) E f)) (hv : PE X value (rd (kW K) E g)) (hs : swapsWith value (some (.Attribute o fld pos')) pos.line X.env = pure false := by rfl) :
    PS X (.Assign [.Attribute o fld pos'] value pos) (rdS K E (sFld c fld f g)) := imp_ps (s_fld cl na ho hv hs) fun D σ H ⟨U, ix, A, s, r, p⟩ => by
  refine ⟨U, ix, A, s, r, PostS.bind p fun v s1 y ix1 H1 r1 x1 z1 p1 => ⟨U, ix1, A, s1, r1, PostS.bind p1 fun w s2 x ix2 H2 r2 x2 z2 p2 => ?_⟩⟩
  split at p2
  · rename_i a
    split at p2
    · rename_i c' fs q
      split at p2
      · rename_i hc
        obtain ⟨rfl, hl, hf⟩ := hc
        cases z2 with
        | @ref _ ad h =>
          obtain ⟨dx, gs, h1, h2⟩ := r2.mem.box a _ ad q h
          refine ⟨ad, dx, gs, rfl, h1, by rw [NRs.len h2]; exact hl, fun H3 f3 h3 => ?_⟩
          have x3 : Ext ix2 A H2 ix2 A H3 := .put (List.mem_append_left _ (List.mem_of_getElem? h)) f3
          have q3 := r2.put h f3 (b := .ins c' (putW fld v fs)) ⟨dx, _, h3, NRs.putF (WR.tr x3.tr _ _ (WR.tr x2.tr _ _ (WR.free _ _ hf z1))) (NRs.tr x3.tr h2)⟩
          exact p2 _ _ _ _ q3.1 q3.2
      · exact p2.elim
    · exact p2.elim
  · exact p2.elim
end
section
variable {P : Program} {w : World} {K : Fg} {mg : Str → Option Value} {base : Heap}
theorem spF_len {n : Nat} {F : FF} {ps : List Str} (hn : ps.length = n) : ∀ vs H Q E, spF K n F vs H Q E → vs.length = ps.length := fun vs H Q E ⟨U, ix, m, ws, r, hw, hl, p⟩ => by
  rw [WRs.len hw, hl, hn]
/-- a def of the text computes F -/
theorem cal_fn {x : Str} {st : Stmt} {f : Addr} {fd : FuncData} {N ps : List Str} {k n : Nat} {g : SF} (F : FunD K x x (defArgs st) (defBody st) (defScope st) [] [] f fd) (hm : mg x = some (.ref f)) (S : FnScope N ps (defScope st)) (hn : ps.length = n)
    (hb : ∀ (kV doc pm : Value) (an : Option Addr) (cdv ct : Value) (us : List Value), us.length = ps.length → bindArgs (PySem.W.fnOf x x (defArgs st) (defBody st) (defScope st) .none kV doc pm an cdv ct) ⟨us, []⟩ = pure (ps.zip us))
    (hbody : ∀ (cdv : Value) (A : Around) (outer : List Env) (s : Shared) (H : Hp) (E : XK), Room k (A.deeper (envOfC x (defScope st) s.heap.objs.size f cdv)) → PSs (cxOf (L2.CX P w) P w K mg base N x (defScope st) f cdv A outer s H E) (defBody st) (rdS K E g)) :
    Cal P w K mg base (k + 1) x (spF K n (fnF N.length n g)) := cal_of F hm S hb (spF_len hn) fun cdv A outer s H vs Q E hr sp => ⟨_, hbody cdv A outer s H E hr, fnF_ok sp⟩
theorem met_fn {x m qual : Str} {C : Addr} {st : Stmt} {f : Addr} {fd : FuncData} {N ps : List Str} {k n : Nat} {g : SF} (hc : Cls K C) (me : Meth K C m f) (F : FunD K m qual (defArgs st) (defBody st) (defScope st) [] [] f fd) (S : FnScope N ps (defScope st)) (hn : ps.length = n)
    (hb : ∀ (kV doc pm : Value) (an : Option Addr) (cdv ct : Value) (us : List Value), us.length = ps.length → bindArgs (PySem.W.fnOf m qual (defArgs st) (defBody st) (defScope st) .none kV doc pm an cdv ct) ⟨us, []⟩ = pure (ps.zip us))
    (hbody : ∀ (cdv : Value) (A : Around) (outer : List Env) (s : Shared) (H : Hp) (E : XK), Room k (A.deeper (envOfC qual (defScope st) s.heap.objs.size f cdv)) → PSs (cxOf (L2.CX P w) P w K mg base N qual (defScope st) f cdv A outer s H E) (defBody st) (rdS K E g)) :
    Met P w K mg base (k + 1) C m (spF K n (fnF N.length n g)) := met_of (x := x) hc me F S hb (spF_len hn) fun cdv A outer s H vs Q E hr sp => ⟨_, hbody cdv A outer s H E hr, fnF_ok sp⟩
theorem mak_fn {x qual : Str} {C : Addr} {st : Stmt} {f : Addr} {fd : FuncData} {N ps : List Str} {k n : Nat} {g : SF} (M : Mk K C f) (hm : mg x = some (.ref C)) (F : FunD K "__init__" qual (defArgs st) (defBody st) (defScope st) [] [] f fd) (S : FnScope N ps (defScope st)) (hn : ps.length = n)
    (hb : ∀ (kV doc pm : Value) (an : Option Addr) (cdv ct : Value) (us : List Value), us.length = ps.length → bindArgs (PySem.W.fnOf "__init__" qual (defArgs st) (defBody st) (defScope st) .none kV doc pm an cdv ct) ⟨us, []⟩ = pure (ps.zip us))
    (hbody : ∀ (cdv : Value) (A : Around) (outer : List Env) (s : Shared) (H : Hp) (E : XK), Room k (A.deeper (envOfC qual (defScope st) s.heap.objs.size f cdv)) → PSs (cxOf (L2.CX P w) P w K mg base N qual (defScope st) f cdv A outer s H E) (defBody st) (rdS K E g)) :
    Mak P w K mg base (k + 1) x C (spF K n (fnF N.length n g)) := mak_of M hm F S hb (spF_len hn) fun cdv A outer s H vs Q E hr sp => ⟨_, hbody cdv A outer s H E hr, fnF_ok sp⟩
end
end FE

/-! FE7: operators, built-ins, methods. -/
namespace FE
open PySem PySem.Spec PyProof.Rows L2 KR
section
variable {K : Fg} {U ix av : List Addr} {A : List (Option Addr)} {H : Hp} {σ : L2.St} {s : S} {E : XK}
theorem WRs.atI {vs : List V} {ws : List W} {i : Int} {w : W} (h : WRs K ix A av H vs ws) (e : atI ws i = some w) : ∃ v, L2.atI vs i = some v ∧ WR K ix A av H v w := by
  unfold L2.atI at e ⊢
  rw [WRs.len h]
  cases q : ixN ws.length i with
  | none => rw [q] at e; cases e
  | some j =>
    rw [q] at e
    obtain ⟨v, e1, h1⟩ := WRs.get h e
    exact ⟨v, e1, h1⟩
theorem writ_ok {v : V} {w : W} {ws ws' : List W} {s' : S} (r : Rel K U ix A σ H s) (h : WR K ix A (avo U ix A) H v w) (e : readL s w = some ws) (e2 : wrL s w ws' = some s') : ∃ a xs, v = .ref a ∧ H a = some (.lst xs) ∧ WRs K ix [] (avo U ix A) H xs ws ∧ a ∈ ix ++ ow A := by
  cases h with
  | @ref n a h =>
    unfold readL at e
    simp only at e
    cases q : s.m[n]? with
    | none => rw [q] at e; cases e
    | some b =>
      rw [q] at e
      have hb := r.mem.box n b a q h
      cases b with
      | lst ws' =>
        cases e
        obtain ⟨xs, h1, h2⟩ := hb
        exact ⟨_, xs, rfl, h1, h2, List.mem_append_left _ (List.mem_of_getElem? h)⟩
      | dct _ => cases e
      | ins _ _ => cases e
      | tbl _ _ => cases e
  | @own i a h =>
    unfold readL at e
    simp only at e
    cases q : s.sl[i]? with
    | none => rw [q] at e; cases e
    | some b =>
      rw [q] at e
      obtain ⟨o, oa, h1, h2, hb⟩ := r.slo.get q
      rw [h] at h2
      cases h2
      cases b with
      | own ws' =>
        cases e
        obtain ⟨a', xs, e1, _, h1, h2⟩ := hb
        cases e1
        exact ⟨_, xs, rfl, h1, h2, List.mem_append_right _ (ow_get h)⟩
      | no => cases e
      | v _ => cases e
  | d h => cases e2
  | scr h => cases e2
  | adr => cases e2
  | tw h1 h2 => cases e2
  | lw h1 h2 h3 => cases e2
/-- a list is written, a value handed back -/
theorem Post.put {Q : V → Hp → Prop} {v : V} {w w' : W} {ws ws' : List W} {s' : S} {a : Addr} {xs xs' : List V} {x : V} (p : Post (kW K) U ix A σ H E Q (.ok w' s')) (r : Rel K U ix A σ H s) (h : WR K ix A (avo U ix A) H (.ref a) w) (e : wrL s w ws' = some s')
    (ha : a ∈ ix ++ ow A) (hw : WRs K ix [] (avo U ix A) H xs' ws') (hx : WR K ix A (avo U ix A) H x w') : PutO a (.lst xs') (Q x) H := fun H1 f h1 => by
  have x1 : Ext ix A H ix A H1 := .put ha f
  have q := wrL_ok (v := .non) (ws := []) r h e f h1 (WRs.tr x1.tr _ _ hw)
  exact p x ix H1 q.1 q.2 (WR.tr x1.tr _ _ hx)
end
/-! ### numbers, texts -/
def oI (C : Int → Int → Bool) (g : Int → Int → PyData) (a b : W) (s : S) : R S W := match a, b with
  | .d (.int i), .d (.int j) => if C i j = true then .ok (.d (g i j)) s else .no
  | _, _ => .no
def oAdd (a b : W) (s : S) : R S W := oI (fun _ _ => true) (fun i j => .int (i + j)) a b s
def oSub (a b : W) (s : S) : R S W := oI (fun _ _ => true) (fun i j => .int (i - j)) a b s
def oMul (a b : W) (s : S) : R S W := oI (fun _ j => decide (-4611686018427387904 < j ∧ j < 4611686018427387904)) (fun i j => .int (i * j)) a b s
def oMod (a b : W) (s : S) : R S W := oI (fun _ j => decide (0 < j)) (fun i j => .int (i % j)) a b s
def oDiv (a b : W) (s : S) : R S W := oI (fun _ j => decide (0 < j ∧ j < 1000000000)) (fun i j => .int (i / j)) a b s
def oPow (a b : W) (s : S) : R S W := oI (fun i j => decide (0 ≤ j ∧ j ≤ 1000000 ∧ 0 ≤ i ∧ i < 4611686018427387904)) (fun i j => .int (i ^ j.toNat)) a b s
def oLt (a b : W) (s : S) : R S W := oI (fun _ _ => true) (fun i j => .bool (decide (i < j))) a b s
def oLe (a b : W) (s : S) : R S W := oI (fun _ _ => true) (fun i j => .bool (decide (i ≤ j))) a b s
def oGt (a b : W) (s : S) : R S W := oI (fun _ _ => true) (fun i j => .bool (decide (j < i))) a b s
def oGe (a b : W) (s : S) : R S W := oI (fun _ _ => true) (fun i j => .bool (decide (j ≤ i))) a b s
def oS (C : Str → Str → Bool) (g : Str → Str → PyData) (a b : W) (s : S) : R S W := match a, b with
  | .d (.str i), .d (.str j) => if C i j = true then .ok (.d (g i j)) s else .no
  | _, _ => .no
def oAddS (a b : W) (s : S) : R S W := oS (fun i j => decide (i.length + j.length ≤ 1000000)) (fun i j => .str (i ++ j)) a b s
def oLtS (a b : W) (s : S) : R S W := oS (fun _ _ => true) (fun i j => .bool (decide (i.cps.toList < j.cps.toList))) a b s
def oLeS (a b : W) (s : S) : R S W := oS (fun _ _ => true) (fun i j => .bool (!decide (j.cps.toList < i.cps.toList))) a b s
def oGtS (a b : W) (s : S) : R S W := oS (fun _ _ => true) (fun i j => .bool (decide (j.cps.toList < i.cps.toList))) a b s
def oGeS (a b : W) (s : S) : R S W := oS (fun _ _ => true) (fun i j => .bool (!decide (i.cps.toList < j.cps.toList))) a b s
/-- == of what is no list, no tuple -/
def eqF : PyData → PyData → Option Bool
  | .none, .none => some true
  | .int i, .int j => some (decide (i = j))
  | .bool i, .bool j => some (decide (i = j))
  | .str i, .str j => some (decide (i = j))
  | .none, .int _ | .int _, .none | .none, .bool _ | .bool _, .none | .none, .str _ | .str _, .none | .int _, .str _ | .str _, .int _ | .bool _, .str _ | .str _, .bool _ => some false
  | _, _ => none
def oEq (neg : Bool) (a b : W) (s : S) : R S W := match a, b with
  | .d x, .d y => match eqF x y with
    | some b => .ok (.d (.bool (if neg = true then !b else b))) s
    | none => .no
  | _, _ => .no
def okDb (d : PyData) : Bool := SeqAt.shaped d && plainD d
/-- == of data -/
def oEqD (neg : Bool) (a b : W) (s : S) : R S W := match toD s a, toD s b with
  | some x, some y => if okDb x = true ∧ okDb y = true then .ok (.d (.bool (if neg = true then !PyData.eqv x y else PyData.eqv x y))) s else .no
  | _, _ => .no
/-- == [], == () -/
def oNil (neg : Bool) (a b : W) (s : S) : R S W := match readL s a, readL s b with
  | some ws, some [] => .ok (.d (.bool (if neg = true then !ws.isEmpty else ws.isEmpty))) s
  | _, _ => .no
def oNilT (neg : Bool) (a b : W) (s : S) : R S W := match readT a, readT b with
  | some ws, some [] => .ok (.d (.bool (if neg = true then !ws.isEmpty else ws.isEmpty))) s
  | _, _ => .no
def fV : PyData → V
  | .none => .non
  | .bool b => .bl b
  | .int i => .int i
  | .str z => .str z
  | _ => .non
def flD : PyData → Bool
  | .none | .bool _ | .int _ | .str _ => true
  | _ => false
def readQ (s : S) (w : W) : Option (List W) := match readT w with
  | some ws => some ws
  | none => readL s w
def oIn (neg : Bool) (a b : W) (s : S) : R S W := match a, readQ s b with
  | .d x, some ws => match allD ws with
    | some ds => if flD x = true ∧ ds.all flD = true then .ok (.d (.bool (if neg = true then !inV (fV x) (ds.map fV) else inV (fV x) (ds.map fV)))) s else .no
    | none => .no
  | _, _ => .no
/-- one sign in a text -/
def oInS (neg : Bool) (a b : W) (s : S) : R S W := match a, b with
  | .d (.str t), .d (.str z) => match t.cps.toList with
    | [c] => .ok (.d (.bool (if neg = true then !decide (c ∈ z.cps.toList) else decide (c ∈ z.cps.toList)))) s
    | _ => .no
  | _, _ => .no
def isNo : W → Bool
  | .d .none => true
  | _ => false
def oIsN (neg : Bool) (a b : W) (s : S) : R S W := match b with
  | .d .none => .ok (.d (.bool (if neg = true then !isNo a else isNo a))) s
  | _ => .no
def oIsB (neg : Bool) (a b : W) (s : S) : R S W := match a, b with
  | .d (.bool x), .d (.bool y) => .ok (.d (.bool (if neg = true then !decide (x = y) else decide (x = y)))) s
  | _, _ => .no
def oIx (a b : W) (s : S) : R S W := match readL s a, b with
  | some ws, .d (.int i) => match atI ws i with
    | some w => .ok w s
    | none => .no
  | _, _ => .no
def oIxT (a b : W) (s : S) : R S W := match readT a, b with
  | some ws, .d (.int i) => match atI ws i with
    | some w => .ok w s
    | none => .no
  | _, _ => .no
def oIxS (a b : W) (s : S) : R S W := match a, b with
  | .d (.str z), .d (.int i) => if z.length ≤ 1000000 then (match atI z.cps.toList i with
    | some c => .ok (.d (.str ⟨#[c]⟩)) s
    | none => .no) else .no
  | _, _ => .no
def oCat (a b : W) (s : S) : R S (List W) := match readL s a, readL s b with
  | some x, some y => if x.length + y.length ≤ 1000000 then .ok (x ++ y) s else .no
  | _, _ => .no
def oRep (a b : W) (s : S) : R S (List W) := match readL s a, b with
  | some x, .d (.int k) => if (0 ≤ k ∧ k ≤ 1000) ∧ x.length ≤ 1000 then .ok (List.replicate k.toNat x).flatten s else .no
  | _, _ => .no
def oCatT (a b : W) (s : S) : R S W := match readT a, readT b with
  | some x, some y => if x.length + y.length ≤ 1000000 then .ok (mkT (x ++ y)) s else .no
  | _, _ => .no
def oRepT (a b : W) (s : S) : R S W := match readT a, b with
  | some x, .d (.int k) => if (0 ≤ k ∧ k ≤ 1000) ∧ x.length ≤ 1000 then .ok (mkT (List.replicate k.toNat x).flatten) s else .no
  | _, _ => .no
section
variable {X : Cx} {K : Fg} {E : XK}
theorem oI_of {f : Value → Value → Sem Value} {C : Int → Int → Bool} {g : Int → Int → PyData} {g' : Int → Int → V} (h : OpR X f (fun x y H Q => ∃ i j, x = .int i ∧ y = .int j ∧ C i j = true ∧ Q (g' i j) H)) (hg : ∀ i j av H, DR K av H (g' i j) (g i j)) : OpR X f (rdO (kW K) E (oI C g)) :=
  op_imp h fun x y H Q ⟨U, ix, A, σ, s, a, b, r, wa, wb, p⟩ => by
  unfold oI at p
  split at p
  · rename_i i j
    split at p
    · rename_i hc
      exact ⟨i, j, WR.int wa, WR.int wb, hc, p.done r (.d (hg _ _ _ _))⟩
    · exact p.elim
  · exact p.elim
theorem o_Add : OpR X (binaryOp .Add) (rdO (kW K) E oAdd) := oI_of (op_imp op_add fun x y H Q ⟨i, j, e1, e2, _, q⟩ => ⟨i, j, e1, e2, q⟩) fun _ _ _ _ => .int _
theorem o_Sub : OpR X (binaryOp .Sub) (rdO (kW K) E oSub) := oI_of (op_imp op_sub fun x y H Q ⟨i, j, e1, e2, _, q⟩ => ⟨i, j, e1, e2, q⟩) fun _ _ _ _ => .int _
theorem o_Mul : OpR X (binaryOp .Mult) (rdO (kW K) E oMul) := oI_of (op_imp o_mul fun x y H Q ⟨i, j, e1, e2, c, q⟩ => ⟨i, j, e1, e2, of_decide_eq_true c, q⟩) fun _ _ _ _ => .int _
theorem o_Mod : OpR X (binaryOp .Mod) (rdO (kW K) E oMod) := oI_of (op_imp op_mod fun x y H Q ⟨i, j, e1, e2, c, q⟩ => ⟨i, j, e1, e2, of_decide_eq_true c, q⟩) fun _ _ _ _ => .int _
theorem o_Div : OpR X (binaryOp .FloorDiv) (rdO (kW K) E oDiv) := oI_of (op_imp o_div fun x y H Q ⟨i, j, e1, e2, c, q⟩ => ⟨i, j, e1, e2, of_decide_eq_true c, q⟩) fun _ _ _ _ => .int _
theorem o_Pow : OpR X (binaryOp .Pow) (rdO (kW K) E oPow) := oI_of (op_imp o_pow fun x y H Q ⟨i, j, e1, e2, c, q⟩ => ⟨i, j, e1, e2, of_decide_eq_true c, q⟩) fun _ _ _ _ => .int _
theorem o_Lt : OpR X (compareOp .Lt) (rdO (kW K) E oLt) := oI_of (op_imp op_lt fun x y H Q ⟨i, j, e1, e2, c, q⟩ => ⟨i, j, e1, e2, q⟩) fun _ _ _ _ => .bl _
theorem o_Le : OpR X (compareOp .LtE) (rdO (kW K) E oLe) := oI_of (op_imp op_le fun x y H Q ⟨i, j, e1, e2, c, q⟩ => ⟨i, j, e1, e2, q⟩) fun _ _ _ _ => .bl _
theorem o_Gt : OpR X (compareOp .Gt) (rdO (kW K) E oGt) := oI_of (op_imp op_gt fun x y H Q ⟨i, j, e1, e2, c, q⟩ => ⟨i, j, e1, e2, q⟩) fun _ _ _ _ => .bl _
theorem o_Ge : OpR X (compareOp .GtE) (rdO (kW K) E oGe) := oI_of (op_imp op_ge fun x y H Q ⟨i, j, e1, e2, c, q⟩ => ⟨i, j, e1, e2, q⟩) fun _ _ _ _ => .bl _
theorem oS_of {f : Value → Value → Sem Value} {C : Str → Str → Bool} {g : Str → Str → PyData} {g' : Str → Str → V} (h : OpR X f (fun x y H Q => ∃ i j, x = .str i ∧ y = .str j ∧ C i j = true ∧ Q (g' i j) H)) (hg : ∀ i j av H, DR K av H (g' i j) (g i j)) : OpR X f (rdO (kW K) E (oS C g)) :=
  op_imp h fun x y H Q ⟨U, ix, A, σ, s, a, b, r, wa, wb, p⟩ => by
  unfold oS at p
  split at p
  · rename_i i j
    split at p
    · rename_i hc
      exact ⟨i, j, WR.str wa, WR.str wb, hc, p.done r (.d (hg _ _ _ _))⟩
    · exact p.elim
  · exact p.elim
theorem o_AddS : OpR X (binaryOp .Add) (rdO (kW K) E oAddS) := oS_of (op_imp o_addS fun x y H Q ⟨i, j, e1, e2, c, q⟩ => ⟨i, j, e1, e2, of_decide_eq_true c, q⟩) fun _ _ _ _ => .str _
theorem o_LtS : OpR X (compareOp .Lt) (rdO (kW K) E oLtS) := oS_of (op_imp op_lt_str fun x y H Q ⟨i, j, e1, e2, c, q⟩ => ⟨i, j, e1, e2, q⟩) fun _ _ _ _ => .bl _
theorem o_LeS : OpR X (compareOp .LtE) (rdO (kW K) E oLeS) := oS_of (op_imp op_le_str fun x y H Q ⟨i, j, e1, e2, c, q⟩ => ⟨i, j, e1, e2, q⟩) fun _ _ _ _ => .bl _
theorem o_GtS : OpR X (compareOp .Gt) (rdO (kW K) E oGtS) := oS_of (op_imp op_gt_str fun x y H Q ⟨i, j, e1, e2, c, q⟩ => ⟨i, j, e1, e2, q⟩) fun _ _ _ _ => .bl _
theorem o_GeS : OpR X (compareOp .GtE) (rdO (kW K) E oGeS) := oS_of (op_imp op_ge_str fun x y H Q ⟨i, j, e1, e2, c, q⟩ => ⟨i, j, e1, e2, q⟩) fun _ _ _ _ => .bl _
theorem eqF_ok {ix av : List Addr} {A : List (Option Addr)} {H : Hp} {x y : V} {a b : PyData} {t : Bool} (wa : WR K ix A av H x (.d a)) (wb : WR K ix A av H y (.d b)) (e : eqF a b = some t) : scal x y = true ∧ t = decide (x = y) := by
  cases wa with
  | d wa =>
  cases wb with
  | d wb =>
  cases wa <;> cases wb <;> simp only [eqF, Option.some.injEq] at e <;> first | (cases e; done) | (subst e; exact ⟨rfl, by simp⟩) | skip
theorem o_Eq : OpR X (compareOp .Eq) (rdO (kW K) E (oEq false)) := op_imp op_eq fun x y H Q ⟨U, ix, A, σ, s, a, b, r, wa, wb, p⟩ => by
  unfold oEq at p
  split at p
  · split at p
    · rename_i e
      have q := eqF_ok wa wb e
      refine ⟨q.1, ?_⟩
      rw [← q.2]
      exact p.done r (.mkB _)
    · exact p.elim
  · exact p.elim
theorem o_Ne : OpR X (compareOp .NotEq) (rdO (kW K) E (oEq true)) := op_imp op_ne fun x y H Q ⟨U, ix, A, σ, s, a, b, r, wa, wb, p⟩ => by
  unfold oEq at p
  split at p
  · split at p
    · rename_i e
      have q := eqF_ok wa wb e
      refine ⟨q.1, ?_⟩
      rw [← q.2]
      exact p.done r (.mkB _)
    · exact p.elim
  · exact p.elim
theorem o_EqD (hu : X.A.units + 64 < cLine) (hK : X.K = K := by rfl) : OpR X (compareOp .Eq) (rdO (kW K) E (oEqD false)) := by
  subst hK
  refine op_imp (op_eqD hu) fun x y H Q ⟨U, ix, A, σ, s, a, b, r, wa, wb, p⟩ => ?_
  unfold oEqD at p
  split at p
  · rename_i d e h1 h2
    split at p
    · rename_i hc
      have c1 := Bool.and_eq_true_iff.mp hc.1
      have c2 := Bool.and_eq_true_iff.mp hc.2
      exact ⟨d, e, toD_ok r wa h1, toD_ok r wb h2, c1.1, c2.1, p.done r (.mkB _)⟩
    · exact p.elim
  · exact p.elim
theorem o_NeD (hu : X.A.units + 64 < cLine) (hK : X.K = K := by rfl) : OpR X (compareOp .NotEq) (rdO (kW K) E (oEqD true)) := by
  subst hK
  refine op_imp (op_neD hu) fun x y H Q ⟨U, ix, A, σ, s, a, b, r, wa, wb, p⟩ => ?_
  unfold oEqD at p
  split at p
  · rename_i d e h1 h2
    split at p
    · rename_i hc
      have c1 := Bool.and_eq_true_iff.mp hc.1
      have c2 := Bool.and_eq_true_iff.mp hc.2
      exact ⟨d, e, toD_ok r wa h1, toD_ok r wb h2, c1.1, c2.1, p.done r (.mkB _)⟩
    · exact p.elim
  · exact p.elim
theorem nil_imp {x y : V} {H : Hp} {Q : VK} {neg : Bool} (q : rdO (kW K) E (oNil neg) x y H Q) : uEqNil K neg x y H Q := by
  obtain ⟨U, ix, A, σ, s, a, b, r, wa, wb, p⟩ := q
  unfold oNil at p
  split at p
  · rename_i ws h1 h2
    obtain ⟨a1, xs, rfl, ha, hw⟩ := readL_ok r wa h1
    obtain ⟨b1, ys, rfl, hb, hw2⟩ := readL_ok r wb h2
    cases hw2
    refine ⟨a1, b1, xs, rfl, rfl, .of ha, .of hb, ?_⟩
    have e : xs.isEmpty = ws.isEmpty := by cases hw <;> rfl
    rw [e]
    exact p.done r (.mkB _)
  · exact p.elim
theorem o_Nil (hu : X.A.units < cLine) (hK : X.K = K := by rfl) : OpR X (compareOp .Eq) (rdO (kW K) E (oNil false)) := by
  subst hK
  exact op_imp (o_eqNil hu) fun _ _ _ _ q => nil_imp q
theorem o_NNil (hu : X.A.units < cLine) (hK : X.K = K := by rfl) : OpR X (compareOp .NotEq) (rdO (kW K) E (oNil true)) := by
  subst hK
  exact op_imp (o_neNil hu) fun _ _ _ _ q => nil_imp q
theorem nilT_imp {x y : V} {H : Hp} {Q : VK} {neg : Bool} (q : rdO (kW K) E (oNilT neg) x y H Q) : uEqNilT K neg x y H Q := by
  obtain ⟨U, ix, A, σ, s, a, b, r, wa, wb, p⟩ := q
  unfold oNilT at p
  split at p
  · rename_i ws h1 h2
    obtain ⟨a1, xs, rfl, ha, hw⟩ := readT_ok wa h1
    obtain ⟨b1, ys, rfl, hb, hw2⟩ := readT_ok wb h2
    cases hw2
    refine ⟨a1, b1, xs, rfl, rfl, ha, hb, ?_⟩
    have e : xs.isEmpty = ws.isEmpty := by cases hw <;> rfl
    rw [e]
    exact p.done r (.mkB _)
  · exact p.elim
theorem o_NilT (hu : X.A.units < cLine) (hK : X.K = K := by rfl) : OpR X (compareOp .Eq) (rdO (kW K) E (oNilT false)) := by
  subst hK
  exact op_imp (o_eqNilT hu) fun _ _ _ _ q => nilT_imp q
theorem o_NNilT (hu : X.A.units < cLine) (hK : X.K = K := by rfl) : OpR X (compareOp .NotEq) (rdO (kW K) E (oNilT true)) := by
  subst hK
  exact op_imp (o_neNilT hu) fun _ _ _ _ q => nilT_imp q
theorem readQ_ok {U ix : List Addr} {A : List (Option Addr)} {σ : L2.St} {H : Hp} {s : S} {v : V} {w : W} {ws : List W} (r : Rel K U ix A σ H s) (h : WR K ix A (avo U ix A) H v w) (e : readQ s w = some ws) : ∃ a xs, v = .ref a ∧ (SqL K H a xs ∨ SqT K H a xs) ∧ WRs K ix A (avo U ix A) H xs ws := by
  unfold readQ at e
  split at e
  · rename_i q
    cases e
    obtain ⟨a, xs, e1, h1, h2⟩ := readT_ok h q
    exact ⟨a, xs, e1, .inr h1, h2⟩
  · obtain ⟨a, xs, e1, h1, h2⟩ := readL_ok r h e
    exact ⟨a, xs, e1, .inl (.of h1), h2⟩
theorem flD_ok {av : List Addr} {H : Hp} : ∀ {vs : List V} {ds : List PyData}, DRs K av H vs ds → ds.all flD = true → vs = ds.map fV ∧ vs.all flatV = true
  | _, _, .nil, _ => ⟨rfl, rfl⟩
  | v :: vs, d :: ds, .cons h1 h2, e => by
    have e' : flD d = true ∧ ds.all flD = true := by simpa using e
    obtain ⟨i1, i2⟩ := flD_ok h2 e'.2
    have : v = fV d ∧ flatV v = true := by
      cases h1 with
      | non => exact ⟨rfl, rfl⟩
      | bl => exact ⟨rfl, rfl⟩
      | int => exact ⟨rfl, rfl⟩
      | str => exact ⟨rfl, rfl⟩
      | tup => exact absurd e'.1 (by simp [flD])
      | lst => exact absurd e'.1 (by simp [flD])
    exact ⟨by rw [this.1, i1]; rfl, by simp [this.2, i2]⟩
theorem in_imp {x y : V} {H : Hp} {Q : VK} {neg : Bool} (q : rdO (kW K) E (oIn neg) x y H Q) : rIn K neg x y H Q := by
  obtain ⟨U, ix, A, σ, s, a, b, r, wa, wb, p⟩ := q
  unfold oIn at p
  split at p
  · rename_i d ws h1
    split at p
    · rename_i ds h2
      split at p
      · rename_i hc
        obtain ⟨c, xs, rfl, hq, hw⟩ := readQ_ok r wb h1
        obtain ⟨e1, e2⟩ := flD_ok (allD_ok h2 hw) hc.2
        cases wa with
        | d wa =>
        obtain ⟨e3, e4⟩ := flD_ok (.cons wa .nil) (by simpa using hc.1)
        have e3' : x = fV d := by simpa using e3
        refine ⟨c, xs, rfl, hq, by simpa using e4, e2, ?_⟩
        rw [e3', e1]
        exact p.done r (.mkB _)
      · exact p.elim
    · exact p.elim
  · exact p.elim
theorem o_In (hK : X.K = K := by rfl) : OpR X (compareOp .In) (rdO (kW K) E (oIn false)) := by
  subst hK
  exact op_imp op_in_seq fun _ _ _ _ q => in_imp q
theorem o_NIn (hK : X.K = K := by rfl) : OpR X (compareOp .NotIn) (rdO (kW K) E (oIn true)) := by
  subst hK
  exact op_imp op_notIn_seq fun _ _ _ _ q => in_imp q
theorem str_one {t : Str} {c : Nat} (h : t.cps.toList = [c]) : t = ⟨#[c]⟩ := by
  cases t with
  | mk cps =>
    have : cps = #[c] := by
      apply Array.toList_inj.mp
      exact h
    rw [this]
theorem o_InS : OpR X (compareOp .In) (rdO (kW K) E (oInS false)) := op_imp op_in_sign fun x y H Q ⟨U, ix, A, σ, s, a, b, r, wa, wb, p⟩ => by
  unfold oInS at p
  split at p
  · split at p
    · rename_i h
      exact ⟨_, _, by rw [WR.str wa, str_one h], WR.str wb, p.done r (.mkB _)⟩
    · exact p.elim
  · exact p.elim
theorem o_NInS : OpR X (compareOp .NotIn) (rdO (kW K) E (oInS true)) := op_imp op_notIn_sign fun x y H Q ⟨U, ix, A, σ, s, a, b, r, wa, wb, p⟩ => by
  unfold oInS at p
  split at p
  · split at p
    · rename_i h
      exact ⟨_, _, by rw [WR.str wa, str_one h], WR.str wb, p.done r (.mkB _)⟩
    · exact p.elim
  · exact p.elim
theorem isNo_ok {ix av : List Addr} {A : List (Option Addr)} {H : Hp} {x : V} {w : W} (h : WR K ix A av H x w) : isNo w = decide (x = .non) := by
  cases h with
  | d h => cases h <;> rfl
  | ref => rfl
  | own => rfl
  | scr => rfl
  | adr => rfl
  | tw => rfl
  | lw => rfl
theorem o_IsN : OpR X (compareOp .Is) (rdO (kW K) E (oIsN false)) := op_imp op_isN fun x y H Q ⟨U, ix, A, σ, s, a, b, r, wa, wb, p⟩ => by
  unfold oIsN at p
  split at p
  · refine ⟨WR.non wb, ?_⟩
    rw [← isNo_ok wa]
    exact p.done r (.mkB _)
  · exact p.elim
theorem o_NotN : OpR X (compareOp .IsNot) (rdO (kW K) E (oIsN true)) := op_imp op_notN fun x y H Q ⟨U, ix, A, σ, s, a, b, r, wa, wb, p⟩ => by
  unfold oIsN at p
  split at p
  · refine ⟨WR.non wb, ?_⟩
    rw [← isNo_ok wa]
    exact p.done r (.mkB _)
  · exact p.elim
theorem o_IsB : OpR X (compareOp .Is) (rdO (kW K) E (oIsB false)) := op_imp op_is_bl fun x y H Q ⟨U, ix, A, σ, s, a, b, r, wa, wb, p⟩ => by
  unfold oIsB at p
  split at p
  · exact ⟨_, _, WR.bl wa, WR.bl wb, p.done r (.mkB _)⟩
  · exact p.elim
theorem o_NotB : OpR X (compareOp .IsNot) (rdO (kW K) E (oIsB true)) := op_imp op_isnot_bl fun x y H Q ⟨U, ix, A, σ, s, a, b, r, wa, wb, p⟩ => by
  unfold oIsB at p
  split at p
  · exact ⟨_, _, WR.bl wa, WR.bl wb, p.done r (.mkB _)⟩
  · exact p.elim
theorem o_Ix (hK : X.K = K := by rfl) : IxR X (rdO (kW K) E oIx) := by
  subst hK
  refine fun value slice pins s0 σ0 H x y v u Q I rx ry q hs => ix_list value slice pins s0 σ0 H x y v u Q I rx ry ?_ hs
  obtain ⟨U, ix, A, σ, s, a, b, r, wa, wb, p⟩ := q
  unfold oIx at p
  split at p
  · rename_i ws i h1
    split at p
    · rename_i w h2
      obtain ⟨c, xs, rfl, hq, hw⟩ := readL_ok r wa h1
      obtain ⟨z, e1, e2⟩ := WRs.atI hw h2
      exact ⟨c, xs, i, z, rfl, WR.int wb, .of hq, e1, p.done r e2⟩
    · exact p.elim
  · exact p.elim
theorem o_IxT (hK : X.K = K := by rfl) : IxR X (rdO (kW K) E oIxT) := by
  subst hK
  refine fun value slice pins s0 σ0 H x y v u Q I rx ry q hs => ix_tup value slice pins s0 σ0 H x y v u Q I rx ry ?_ hs
  obtain ⟨U, ix, A, σ, s, a, b, r, wa, wb, p⟩ := q
  unfold oIxT at p
  split at p
  · rename_i ws i h1
    split at p
    · rename_i w h2
      obtain ⟨c, xs, rfl, hq, hw⟩ := readT_ok wa h1
      obtain ⟨z, e1, e2⟩ := WRs.atI hw h2
      exact ⟨c, xs, i, z, rfl, WR.int wb, hq, e1, p.done r e2⟩
    · exact p.elim
  · exact p.elim
theorem o_IxS : IxR X (rdO (kW K) E oIxS) := by
  refine fun value slice pins s0 σ0 H x y v u Q I rx ry q hs => ix_str value slice pins s0 σ0 H x y v u Q I rx ry ?_ hs
  obtain ⟨U, ix, A, σ, s, a, b, r, wa, wb, p⟩ := q
  unfold oIxS at p
  split at p
  · split at p
    · rename_i hl
      split at p
      · rename_i c h
        exact ⟨_, _, c, WR.str wa, WR.int wb, sz hl, h, p.done r (.mkS _)⟩
      · exact p.elim
    · exact p.elim
  · exact p.elim
theorem o_Cat : OpR X (binaryOp .Add) (rdO (kL K) E oCat) := op_imp o_cat fun x y H Q ⟨U, ix, A, σ, s, a, b, r, wa, wb, p⟩ => by
  unfold oCat at p
  split at p
  · rename_i u v h1 h2
    split at p
    · rename_i hl
      obtain ⟨c, xs, rfl, hq, hw⟩ := readL_ok r wa h1
      obtain ⟨c2, ys, rfl, hq2, hw2⟩ := readL_ok r wb h2
      exact ⟨c, c2, xs, ys, rfl, rfl, hq, hq2, by rw [WRs.len hw, WRs.len hw2]; exact hl, p.newL r (WRs.append hw hw2)⟩
    · exact p.elim
  · exact p.elim
theorem o_Rep : OpR X (binaryOp .Mult) (rdO (kL K) E oRep) := op_imp o_rep fun x y H Q ⟨U, ix, A, σ, s, a, b, r, wa, wb, p⟩ => by
  unfold oRep at p
  split at p
  · rename_i u k h1
    split at p
    · rename_i hl
      obtain ⟨c, xs, rfl, hq, hw⟩ := readL_ok r wa h1
      exact ⟨c, k, xs, rfl, WR.int wb, hq, hl.1.1, hl.1.2, by rw [WRs.len hw]; exact hl.2, p.newL r (WRs.rep hw _)⟩
    · exact p.elim
  · exact p.elim
theorem o_CatT (hK : X.K = K := by rfl) : OpR X (binaryOp .Add) (rdO (kW K) E oCatT) := by
  subst hK
  refine op_imp o_catT fun x y H Q ⟨U, ix, A, σ, s, a, b, r, wa, wb, p⟩ => ?_
  unfold oCatT at p
  split at p
  · rename_i u v h1 h2
    split at p
    · rename_i hl
      obtain ⟨c, xs, rfl, hq, hw⟩ := readT_ok wa h1
      obtain ⟨c2, ys, rfl, hq2, hw2⟩ := readT_ok wb h2
      exact ⟨c, c2, xs, ys, rfl, rfl, hq, hq2, by rw [WRs.len hw, WRs.len hw2]; exact hl, p.newT r (WRs.append hw hw2)⟩
    · exact p.elim
  · exact p.elim
theorem o_RepT (hK : X.K = K := by rfl) : OpR X (binaryOp .Mult) (rdO (kW K) E oRepT) := by
  subst hK
  refine op_imp o_repT fun x y H Q ⟨U, ix, A, σ, s, a, b, r, wa, wb, p⟩ => ?_
  unfold oRepT at p
  split at p
  · rename_i u k h1
    split at p
    · rename_i hl
      obtain ⟨c, xs, rfl, hq, hw⟩ := readT_ok wa h1
      exact ⟨c, k, xs, rfl, WR.int wb, hq, hl.1, by rw [WRs.len hw]; exact hl.2, p.newT r (WRs.rep hw _)⟩
    · exact p.elim
  · exact p.elim
end
end FE

/-! FE8: slices, built-ins, methods, stores. -/
namespace FE
open PySem PySem.Spec PyProof.Rows L2 KR
/-! ### slices -/
def cutA {α : Type} (xs : List α) (lo hi : Option Int) : List α := (xs.drop (HT.sIx xs.length 0 lo)).take (HT.sIx xs.length xs.length hi - HT.sIx xs.length 0 lo)
theorem cutA_to {α : Type} {xs : List α} {v : Int} (h : 0 ≤ v) : cutA xs none (some v) = xs.take v.toNat := by
  unfold cutA
  rw [sIx_pos h, HT.sIx_none, List.drop_zero, Nat.sub_zero]
  by_cases c : v.toNat ≤ xs.length
  · rw [Nat.min_eq_left c]
  · rw [Nat.min_eq_right (by omega), List.take_length, List.take_of_length_le (by omega)]
theorem cutA_from {α : Type} {xs : List α} {v : Int} (h : 0 ≤ v) : cutA xs (some v) none = xs.drop v.toNat := by
  unfold cutA
  rw [sIx_pos h, HT.sIx_none]
  by_cases c : v.toNat ≤ xs.length
  · rw [Nat.min_eq_left c, List.take_of_length_le (by rw [List.length_drop]; omega)]
  · rw [Nat.min_eq_right (by omega), List.drop_length, List.drop_of_length_le (by omega), List.take_nil]
theorem cutA_in {α : Type} {xs : List α} {u v : Int} (hu : 0 ≤ u) (h : 0 ≤ v) : cutA xs (some u) (some v) = (xs.take v.toNat).drop u.toNat := by
  unfold cutA
  rw [sIx_pos h, sIx_pos hu, List.drop_take]
  by_cases c : u.toNat ≤ xs.length
  · rw [Nat.min_eq_left c]
    by_cases c2 : v.toNat ≤ xs.length
    · rw [Nat.min_eq_left c2]
    · rw [Nat.min_eq_right (by omega), List.take_of_length_le (by rw [List.length_drop]; omega), List.take_of_length_le (by rw [List.length_drop]; omega)]
  · rw [Nat.min_eq_right (show xs.length ≤ u.toNat by omega), List.drop_length, List.drop_of_length_le (show xs.length ≤ u.toNat by omega), List.take_nil, List.take_nil]
theorem cutA_last {α : Type} {xs : List α} {k : Nat} (hk : 0 < k) : cutA xs (some (-(k : Int))) none = xs.drop (xs.length - k) := by
  unfold cutA
  rw [HT.sIx_none]
  have e : HT.sIx xs.length 0 (some (-(k : Int))) = xs.length - k := by
    show (if (-(k : Int)) < 0 then (-(k : Int) + (xs.length : Int)).toNat else _) = _
    rw [if_pos (by omega)]
    omega
  rw [e, List.take_of_length_le (by rw [List.length_drop]; omega)]
def kO (K : Fg) : Kind K (Option Int) (Option Int) := ⟨fun _ _ _ _ _ _ _ b a => b = a, fun _ _ h => h⟩
def xN (s : S) : R S (Option Int) := .ok none s
def xS (f : EF) (s : S) : R S (Option Int) := (f s).bind fun w s => match w with
  | .d (.int i) => .ok (some i) s
  | _ => .no
def eSl {α : Type} (o : W → Option Int → Option Int → S → R S α) (f : EF) (l h : S → R S (Option Int)) (s : S) : R S α := (f s).bind fun w s => (l s).bind fun a s => (h s).bind fun b s => o w a b s
def slL (w : W) (a b : Option Int) (s : S) : R S (List W) := match readL s w with
  | some ws => .ok (cutA ws a b) s
  | none => .no
def slT (w : W) (a b : Option Int) (s : S) : R S W := match readT w with
  | some ws => .ok (mkT (cutA ws a b)) s
  | none => .no
def slS (w : W) (a b : Option Int) (s : S) : R S W := match w with
  | .d (.str z) => if z.length ≤ 1000000 then .ok (.d (.str ⟨(cutA z.cps.toList a b).toArray⟩)) s else .no
  | _ => .no
def rdSl {K : Fg} {α : Type} (k : Kind K α V) (E : XK) (f : W → Option Int → Option Int → S → R S α) : V → Option Int → Option Int → Hp → VK → Prop := fun x lo hi H Q => ∃ U ix A σ s a, Rel K U ix A σ H s ∧ WR K ix A (avo U ix A) H x a ∧ Post k U ix A σ H E Q (f a lo hi s)
def rdC {K : Fg} {α : Type} (k : Kind K α V) (E : XK) (f : List W → S → R S α) : List V → Hp → VK → Prop := fun xs H Q => ∃ U ix A σ s ws, Rel K U ix A σ H s ∧ WRs K ix A (avo U ix A) H xs ws ∧ Post k U ix A σ H E Q (f ws s)
def rdM {K : Fg} {α : Type} (k : Kind K α V) (E : XK) (f : W → List W → S → R S α) : V → List V → Hp → VK → Prop := fun x xs H Q => ∃ U ix A σ s w ws, Rel K U ix A σ H s ∧ WR K ix A (avo U ix A) H x w ∧ WRs K ix A (avo U ix A) H xs ws ∧ Post k U ix A σ H E Q (f w ws s)
def eB {α : Type} (o : List W → S → R S α) (f : LF) (s : S) : R S α := (f s).bind fun ws s => o ws s
/-- a list's method -/
def eLm {α : Type} (o : W → List W → S → R S α) (f : EF) (g : LF) (s : S) : R S α := (f s).bind fun w s => if (readL s w).isSome = true then (g s).bind fun ws s => o w ws s else .no
section
variable {X : Cx} {K : Fg} {E : XK} {pos p2 : Pos} {e : Expr} {f : EF} {t : LF}
theorem WRs.cutA {ix av : List Addr} {A : List (Option Addr)} {H : Hp} {vs : List V} {ws : List W} (h : WRs K ix A av H vs ws) (lo hi : Option Int) : WRs K ix A av H (L2.cutV vs lo hi) (FE.cutA ws lo hi) := by
  unfold L2.cutV FE.cutA
  rw [WRs.len h]
  exact WRs.take _ (WRs.drop _ h)
theorem imp_po {e : Option Expr} {t t' : TO} (h : PO X e t) (hi : ∀ σ H Q, t' σ H Q → t σ H Q) : PO X e t' := ⟨fun pins s σ H Q I q => h.run pins s σ H Q I (hi σ H Q q)⟩
theorem x_none : PO X none (rd (kO K) E xN) := imp_po po_none fun σ H Q ⟨U, ix, A, s, r, p⟩ => p.done r rfl
theorem x_some (h : PE X e (rd (kW K) E f)) : PO X (some e) (rd (kO K) E (xS f)) := imp_po (po_some h) fun σ H Q ⟨U, ix, A, s, r, p⟩ =>
  ⟨U, ix, A, s, r, Post.bind p fun w s1 x ix1 H1 r1 x1 z1 p1 => by
    split at p1
    · exact ⟨_, WR.int z1, p1.done r1 rfl⟩
    · exact p1.elim⟩
theorem f_sl {α : Type} {k : Kind K α V} {o : W → Option Int → Option Int → S → R S α} {lo hi : Option Expr} {l h : S → R S (Option Int)} (ho : SlR X (rdSl k E o)) (he : PE X e (rd (kW K) E f)) (hl : PO X lo (rd (kO K) E l)) (hu : PO X hi (rd (kO K) E h)) :
    PE X (.Subscript e (.Slice lo hi none p2) pos) (rd k E (eSl o f l h)) := imp_te (pe_slice ho he hl hu) fun σ H Q ⟨U, ix, A, s, r, p⟩ =>
  ⟨U, ix, A, s, r, Post.bind p fun w s1 x ix1 H1 r1 x1 z1 p1 => ⟨U, ix1, A, s1, r1, Post.bind p1 fun a s2 a' ix2 H2 r2 x2 z2 p2 => by
    cases z2
    exact ⟨U, ix2, A, s2, r2, Post.bind p2 fun b s3 b' ix3 H3 r3 x3 z3 p3 => by
      cases z3
      exact ⟨U, ix3, A, σ, s3, w, r3, WR.tr (x2.trans x3).tr _ _ z1, p3⟩⟩⟩⟩
theorem l_L (hK : X.K = K := by rfl) : SlR X (rdSl (kL K) E slL) := by
  subst hK
  refine sl_imp l_list fun x lo hi H Q ⟨U, ix, A, σ, s, w, r, wa, p⟩ => ?_
  unfold slL at p
  split at p
  · rename_i ws h
    obtain ⟨a, xs, rfl, h1, h2⟩ := readL_ok r wa h
    exact ⟨a, xs, rfl, .of h1, p.newL r (WRs.cutA h2 lo hi)⟩
  · exact p.elim
theorem l_T (hK : X.K = K := by rfl) : SlR X (rdSl (kW K) E slT) := by
  subst hK
  refine sl_imp l_tup fun x lo hi H Q ⟨U, ix, A, σ, s, w, r, wa, p⟩ => ?_
  unfold slT at p
  split at p
  · rename_i ws h
    obtain ⟨a, xs, rfl, h1, h2⟩ := readT_ok wa h
    exact ⟨a, xs, rfl, h1, p.newT r (WRs.cutA h2 lo hi)⟩
  · exact p.elim
theorem l_S : SlR X (rdSl (kW K) E slS) := sl_imp l_str fun x lo hi H Q ⟨U, ix, A, σ, s, w, r, wa, p⟩ => by
  unfold slS at p
  split at p
  · rename_i z
    split at p
    · rename_i hl
      refine ⟨z, WR.str wa, hl, ?_⟩
      have e : cutS z lo hi = ⟨(cutA z.cps.toList lo hi).toArray⟩ := by
        unfold cutS cutA
        have : z.length = z.cps.toList.length := by simp [Str.length]
        rw [this]
      rw [e]
      exact p.done r (.mkS _)
    · exact p.elim
  · exact p.elim
/-! ### built-in functions, types -/
theorem f_B {α : Type} {k : Kind K α V} {o : List W → S → R S α} {id : String} {x : Str} {p : Pos} {es : List Expr} (hc : CallR X (.builtin id) (rdC k E o)) (hg : Gl X x) (hm : X.mg x = none) (hv : bootBuiltins x = some (.builtin id)) (ha : PA X (e :: es) (rd (kA K) E t)) (hn : x ≠ "__name__" := by decide) (hdb : (x == ("__debug__" : Str)) = false := by decide)
    (he : starEach (e :: es) X.env = (false, eval e X.env) :: starEach es X.env := by rfl) (hpl : (backTo pos (starEach es X.env)).any (·.1) = false := by rfl) : PE X (.Call (.Name x p) (e :: es) [] pos) (rd k E (eB o t)) := imp_te (pe_callB hc hg hm hv ha hn hdb he hpl) fun σ H Q ⟨U, ix, A, s, r, p⟩ =>
  ⟨U, ix, A, s, r, Post.bind p fun ws s1 x ix1 H1 r1 x1 z1 p1 => ⟨U, ix1, A, σ, s1, ws, r1, z1, p1⟩⟩
theorem f_Ty {α : Type} {k : Kind K α V} {o : List W → S → R S α} {T : String} {x : Str} {p : Pos} {es : List Expr} (hc : CallR X (.type T) (rdC k E o)) (hg : Gl X x) (hm : X.mg x = none) (hv : bootBuiltins x = some (.type T)) (ha : PA X (e :: es) (rd (kA K) E t)) (hn : x ≠ "__name__" := by decide) (hdb : (x == ("__debug__" : Str)) = false := by decide)
    (he : starEach (e :: es) X.env = (false, eval e X.env) :: starEach es X.env := by rfl) (hpl : (backTo pos (starEach es X.env)).any (·.1) = false := by rfl) : PE X (.Call (.Name x p) (e :: es) [] pos) (rd k E (eB o t)) := imp_te (pe_callTy hc hg hm hv ha hn hdb he hpl) fun σ H Q ⟨U, ix, A, s, r, p⟩ =>
  ⟨U, ix, A, s, r, Post.bind p fun ws s1 x ix1 H1 r1 x1 z1 p1 => ⟨U, ix1, A, σ, s1, ws, r1, z1, p1⟩⟩
def bLenS (ws : List W) (s : S) : R S W := match ws with
  | [.d (.str z)] => if z.length ≤ 1000000 then .ok (.d (.int z.length)) s else .no
  | _ => .no
def bLenL (ws : List W) (s : S) : R S W := match ws with
  | [w] => match readL s w with
    | some r => .ok (.d (.int r.length)) s
    | none => .no
  | _ => .no
def bLenT (ws : List W) (s : S) : R S W := match ws with
  | [w] => match readT w with
    | some r => .ok (.d (.int r.length)) s
    | none => .no
  | _ => .no
def bMax (ws : List W) (s : S) : R S W := match ws with
  | [.d (.int i), .d (.int j)] => .ok (.d (.int (if j > i then j else i))) s
  | _ => .no
def bMin (ws : List W) (s : S) : R S W := match ws with
  | [.d (.int i), .d (.int j)] => .ok (.d (.int (if j < i then j else i))) s
  | _ => .no
def seqR (s : S) : W → Option (List W)
  | .scr ns => some (ns.map fun n => .d (.int n))
  | w => readQ s w
def bList (ws : List W) (s : S) : R S (List W) := match ws with
  | [w] => match seqR s w with
    | some r => .ok r s
    | none => .no
  | _ => .no
def bListS (ws : List W) (s : S) : R S (List W) := match ws with
  | [.d (.str z)] => if z.length ≤ 1000000 then .ok (signs z) s else .no
  | _ => .no
def bTup (ws : List W) (s : S) : R S W := match ws with
  | [w] => match readQ s w with
    | some r => .ok (mkT r) s
    | none => .no
  | _ => .no
def bInt (ws : List W) (s : S) : R S W := match ws with
  | [.d (.int i)] => .ok (.d (.int i)) s
  | [.d (.bool b)] => .ok (.d (.int (if b = true then 1 else 0))) s
  | _ => .no
def bStr (ws : List W) (s : S) : R S W := match ws with
  | [.d (.int i)] => if i.natAbs.log2 < 1920 then .ok (.d (.str (toString i))) s else .no
  | _ => .no
section
variable {ix av : List Addr} {A : List (Option Addr)} {H : Hp}
theorem WRs.one {vs : List V} {w : W} (h : WRs K ix A av H vs [w]) : ∃ v, vs = [v] ∧ WR K ix A av H v w := by
  cases h with
  | cons h1 h2 =>
    cases h2
    exact ⟨_, rfl, h1⟩
theorem WRs.two {vs : List V} {w u : W} (h : WRs K ix A av H vs [w, u]) : ∃ v x, vs = [v, x] ∧ WR K ix A av H v w ∧ WR K ix A av H x u := by
  cases h with
  | cons h1 h2 =>
    obtain ⟨x, rfl, h3⟩ := WRs.one h2
    exact ⟨_, _, rfl, h1, h3⟩
end
theorem b_LenS : CallR X (.builtin "len") (rdC (kW K) E bLenS) := call_imp c_lenS fun xs H Q ⟨U, ix, A, σ, s, ws, r, wa, p⟩ => by
  unfold bLenS at p
  split at p
  · split at p
    · rename_i z hl
      obtain ⟨v, rfl, h⟩ := WRs.one wa
      exact ⟨z, by rw [WR.str h], hl, p.done r (.mkI _)⟩
    · exact p.elim
  · exact p.elim
theorem b_LenL (hK : X.K = K := by rfl) : CallR X (.builtin "len") (rdC (kW K) E bLenL) := by
  subst hK
  refine call_imp c_lenL fun xs H Q ⟨U, ix, A, σ, s, ws, r, wa, p⟩ => ?_
  unfold bLenL at p
  split at p
  · split at p
    · rename_i w u h
      obtain ⟨v, rfl, h0⟩ := WRs.one wa
      obtain ⟨a, xs, rfl, h1, h2⟩ := readL_ok r h0 h
      refine ⟨a, xs, rfl, .of h1, ?_⟩
      rw [WRs.len h2]
      exact p.done r (.mkI _)
    · exact p.elim
  · exact p.elim
theorem b_LenT (hK : X.K = K := by rfl) : CallR X (.builtin "len") (rdC (kW K) E bLenT) := by
  subst hK
  refine call_imp c_lenT fun xs H Q ⟨U, ix, A, σ, s, ws, r, wa, p⟩ => ?_
  unfold bLenT at p
  split at p
  · split at p
    · rename_i w u h
      obtain ⟨v, rfl, h0⟩ := WRs.one wa
      obtain ⟨a, xs, rfl, h1, h2⟩ := readT_ok h0 h
      refine ⟨a, xs, rfl, h1, ?_⟩
      rw [WRs.len h2]
      exact p.done r (.mkI _)
    · exact p.elim
  · exact p.elim
theorem b_Max (hc : X.calm = true) : CallR X (.builtin "max") (rdC (kW K) E bMax) := call_imp (call_max2 hc) fun xs H Q ⟨U, ix, A, σ, s, ws, r, wa, p⟩ => by
  unfold bMax at p
  split at p
  · obtain ⟨v, x, rfl, h1, h2⟩ := WRs.two wa
    exact ⟨_, _, by rw [WR.int h1, WR.int h2], p.done r (.mkI _)⟩
  · exact p.elim
theorem b_Min (hc : X.calm = true) : CallR X (.builtin "min") (rdC (kW K) E bMin) := call_imp (call_min2 hc) fun xs H Q ⟨U, ix, A, σ, s, ws, r, wa, p⟩ => by
  unfold bMin at p
  split at p
  · obtain ⟨v, x, rfl, h1, h2⟩ := WRs.two wa
    exact ⟨_, _, by rw [WR.int h1, WR.int h2], p.done r (.mkI _)⟩
  · exact p.elim
theorem seqR_ok {U ix : List Addr} {A : List (Option Addr)} {σ : L2.St} {H : Hp} {s : S} {v : V} {w : W} {ws : List W} (r : Rel K U ix A σ H s) (h : WR K ix A (avo U ix A) H v w) (e : seqR s w = some ws) : ∃ a xs, v = .ref a ∧ (SqL K H a xs ∨ SqT K H a xs) ∧ WRs K ix A (avo U ix A) H xs ws := by
  unfold seqR at e
  split at e
  · cases e
    cases h with
    | scr h =>
      refine ⟨_, _, rfl, .inl ?_, ints_wr _⟩
      rcases h with ⟨o, h⟩ | ⟨h, _⟩ | h
      · exact .inl (.inr ⟨o, h⟩)
      · exact .inl (.inl h)
      · exact .inr h
  · exact readQ_ok r h e
theorem b_List (hK : X.K = K := by rfl) : CallR X (.type "list") (rdC (kL K) E bList) := by
  subst hK
  refine call_imp c_listOf fun xs H Q ⟨U, ix, A, σ, s, ws, r, wa, p⟩ => ?_
  unfold bList at p
  split at p
  · split at p
    · rename_i w u h
      obtain ⟨v, rfl, h0⟩ := WRs.one wa
      obtain ⟨a, xs, rfl, h1, h2⟩ := seqR_ok r h0 h
      exact ⟨a, xs, rfl, h1, p.newL r h2⟩
    · exact p.elim
  · exact p.elim
theorem strs_wr {ix av : List Addr} {A : List (Option Addr)} {H : Hp} : ∀ ss : List Str, WRs K ix A av H (ss.map V.str) (ss.map fun z => .d (.str z))
  | [] => .nil
  | z :: ss => .cons (.mkS z) (strs_wr ss)
theorem signs_eq (z : Str) : signs z = (chs z).map fun t => .d (.str t) := by
  unfold signs chs
  rw [List.map_map]
  rfl
theorem b_ListS (hc : X.calm = true) : CallR X (.type "list") (rdC (kL K) E bListS) := call_imp (c_listStr hc) fun xs H Q ⟨U, ix, A, σ, s, ws, r, wa, p⟩ => by
  unfold bListS at p
  split at p
  · split at p
    · rename_i z hl
      obtain ⟨v, rfl, h⟩ := WRs.one wa
      rw [signs_eq] at p
      exact ⟨z, by rw [WR.str h], hl, p.newL r (strs_wr _)⟩
    · exact p.elim
  · exact p.elim
theorem b_Tup (hK : X.K = K := by rfl) : CallR X (.type "tuple") (rdC (kW K) E bTup) := by
  subst hK
  refine call_imp c_tupOf fun xs H Q ⟨U, ix, A, σ, s, ws, r, wa, p⟩ => ?_
  unfold bTup at p
  split at p
  · split at p
    · rename_i w u h
      obtain ⟨v, rfl, h0⟩ := WRs.one wa
      obtain ⟨a, xs, rfl, h1, h2⟩ := readQ_ok r h0 h
      exact ⟨a, xs, rfl, h1, p.newT r h2⟩
    · exact p.elim
  · exact p.elim
theorem b_Int : CallR X (.type "int") (rdC (kW K) E bInt) := call_imp call_int1 fun xs H Q ⟨U, ix, A, σ, s, ws, r, wa, p⟩ => by
  unfold bInt at p
  split at p
  · obtain ⟨v, rfl, h⟩ := WRs.one wa
    exact .inl ⟨_, by rw [WR.int h], p.done r (.mkI _)⟩
  · obtain ⟨v, rfl, h⟩ := WRs.one wa
    exact .inr ⟨_, by rw [WR.bl h], p.done r (.mkI _)⟩
  · exact p.elim
theorem b_Str : CallR X (.type "str") (rdC (kW K) E bStr) := call_imp call_str_int fun xs H Q ⟨U, ix, A, σ, s, ws, r, wa, p⟩ => by
  unfold bStr at p
  split at p
  · split at p
    · rename_i hl
      obtain ⟨v, rfl, h⟩ := WRs.one wa
      exact ⟨_, by rw [WR.int h], hl, p.done r (.mkS _)⟩
    · exact p.elim
  · exact p.elim
/-! isinstance(x, T), (x, (T1, T2)) -/
def kindW (s : S) : W → Option String
  | .d x => some (kindOf x)
  | .tw _ => some "tuple"
  | w => if (readL s w).isSome = true then some "list" else none
theorem kindW_ok {U ix : List Addr} {A : List (Option Addr)} {σ : L2.St} {H : Hp} {s : S} {v : V} {w : W} {k : String} (r : Rel K U ix A σ H s) (h : WR K ix A (avo U ix A) H v w) (e : kindW s w = some k) : Kd K H v k ∧ k ∈ kinds := by
  have lst : (if (readL s w).isSome = true then some "list" else none) = some k → Kd K H v k ∧ k ∈ kinds := fun e => by
    split at e
    · rename_i q
      cases e
      cases q2 : readL s w with
      | none => rw [q2] at q; cases q
      | some ws =>
        obtain ⟨a, xs, rfl, h1, h2⟩ := readL_ok r h q2
        exact ⟨kd_lst h1, by simp [kinds]⟩
    · cases e
  cases h with
  | d h =>
    cases e
    exact kd_of (DR.dp _ _ h)
  | tw h1 h2 =>
    cases e
    exact ⟨kd_tup h1, by simp [kinds]⟩
  | ref h => exact lst e
  | own h => exact lst e
  | scr h => exact lst e
  | adr => cases e
  | lw h1 h2 h3 => exact lst e
def eIsi (f : EF) (m : String) (s : S) : R S W := (f s).bind fun w s => match kindW s w with
  | some k => if okKind m = true then .ok (.d (.bool (isB k m))) s else .no
  | none => .no
def eIsi2 (f : EF) (m n : String) (s : S) : R S W := (f s).bind fun w s => match kindW s w with
  | some k => if okKind m = true ∧ okKind n = true then .ok (.d (.bool (isB k m || isB k n))) s else .no
  | none => .no
theorem f_isi {m : String} {c : Expr} {p : Pos} (hg : Gl X "isinstance") (hm : X.mg "isinstance" = none) (ha : PE X e (rd (kW K) E f)) (hc : PE X c (tC (.ty m))) (hK : X.K = K := by rfl)
    (he : starEach [e, c] X.env = (false, eval e X.env) :: starEach [c] X.env := by rfl) (he2 : starEach [c] X.env = (false, eval c X.env) :: starEach [] X.env := by rfl) (hpl : (backTo pos (starEach [c] X.env)).any (·.1) = false := by rfl) : PE X (.Call (.Name "isinstance" p) [e, c] [] pos) (rd (kW K) E (eIsi f m)) := by
  subst hK
  refine imp_te (pe_callB c_isi hg hm (by decide +kernel) (pa_cons ha (pa_cons hc pa_nil he2) he) (by decide) (by decide) he hpl) fun σ H Q ⟨U, ix, A, s, r, p⟩ => ⟨U, ix, A, s, r, Post.bind p fun w s1 x ix1 H1 r1 x1 z1 p1 => ?_⟩
  split at p1
  · rename_i k q
    split at p1
    · rename_i hm
      have hm' := Bool.and_eq_true_iff.mp hm
      obtain ⟨h1, h2⟩ := kindW_ok r1 z1 q
      exact ⟨x, m, k, rfl, h1, h2, ⟨by simpa using hm'.1, by simpa using hm'.2⟩, p1.done r1 (.mkB _)⟩
    · exact p1.elim
  · exact p1.elim
theorem f_isi2 {m n : String} {c d : Expr} {p tp : Pos} {kk : Nat} (hg : Gl X "isinstance") (hm : X.mg "isinstance" = none) (ha : PE X e (rd (kW K) E f)) (hc : PE X c (tC (.ty m))) (hd : PE X d (tC (.ty n))) (hK : X.K = K := by rfl)
    (he : starEach [e, .Tuple [c, d] kk tp] X.env = (false, eval e X.env) :: starEach [.Tuple [c, d] kk tp] X.env := by rfl) (he2 : starEach [.Tuple [c, d] kk tp] X.env = (false, eval (.Tuple [c, d] kk tp) X.env) :: starEach [] X.env := by rfl) (hpl : (backTo pos (starEach [.Tuple [c, d] kk tp] X.env)).any (·.1) = false := by rfl)
    (h3 : starEach [c, d] X.env = (false, eval c X.env) :: starEach [d] X.env := by rfl) (h4 : starEach [d] X.env = (false, eval d X.env) :: starEach [] X.env := by rfl) : PE X (.Call (.Name "isinstance" p) [e, .Tuple [c, d] kk tp] [] pos) (rd (kW K) E (eIsi2 f m n)) := by
  subst hK
  refine imp_te (pe_callB c_isi2 hg hm (by decide +kernel) (pa_cons ha (pa_cons (pe_tup (pa_cons hc (pa_cons hd pa_nil h4) h3)) pa_nil he2) he) (by decide) (by decide) he hpl) fun σ H Q ⟨U, ix, A, s, r, p⟩ => ⟨U, ix, A, s, r, Post.bind p fun w s1 x ix1 H1 r1 x1 z1 p1 => ?_⟩
  split at p1
  · rename_i k q
    split at p1
    · rename_i hm
      have hm' := Bool.and_eq_true_iff.mp hm.1
      have hn' := Bool.and_eq_true_iff.mp hm.2
      refine ⟨by show 2 ≤ sizeLine; decide, fun t ht => ?_⟩
      have f0 : Fr [] H1 (upd H1 t (.tup [.ty m, .ty n])) := .new ht
      obtain ⟨h1, h2⟩ := kindW_ok (r1.tr0 f0) (WR.tr (tr0 f0) _ _ z1) q
      exact ⟨x, t, m, n, k, rfl, upd_same, h1, h2, ⟨by simpa using hm'.1, by simpa using hm'.2⟩, ⟨by simpa using hn'.1, by simpa using hn'.2⟩, p1.done0 r1 f0 (.mkB _)⟩
    · exact p1.elim
  · exact p1.elim
/-! ### a list's methods -/
theorem f_lm {o : Expr} {es : List Expr} {name : Str} {apos cpos : Pos} {id : String} {α : Type} {k : Kind K α V} {m : W → List W → S → R S α} (slot : Slot "list" name id) (hty : typeOf (.builtin id) = pure (.type "method_descriptor")) (hm : MtR X id (rdM k E m)) (ho : PE X o (rd (kW K) E f)) (ha : PA X (e :: es) (rd (kA K) E t))
    (hbase : attributeBase o name X.env (eval o X.env) = eval o X.env := by rfl)
    (hfew : ((backTo cpos (starEach (e :: es) X.env)).all (fun x => !x.1) && (backToKw cpos (keywordEach [] X.env)).all (fun x => x.1.isSome) && decide ((e :: es).length + ([] : List Keyword).length + (if ([] : List Keyword).isEmpty then 0 else 1) < 30)) = true := by rfl)
    (hline : (apos.endLine == cpos.line) = true := by rfl) (hs : starEach (e :: es) X.env = (false, eval e X.env) :: starEach es X.env := by rfl) (hplain : (backTo cpos (starEach es X.env)).any (·.1) = false := by rfl) :
    PE X (.Call (.Attribute o name apos) (e :: es) [] cpos) (rd k E (eLm m f t)) := imp_te (e_lm slot hty hm ho ha hbase hfew hline hs hplain) fun σ H Q ⟨U, ix, A, s, r, p⟩ =>
  ⟨U, ix, A, s, r, Post.bind p fun w s1 x ix1 H1 r1 x1 z1 p1 => by
    split at p1
    · rename_i hq
      cases q : readL s1 w with
      | none => rw [q] at hq; cases hq
      | some ws0 =>
        obtain ⟨a, xs, rfl, h1, h2⟩ := readL_ok r1 z1 q
        exact ⟨a, xs, rfl, h1, U, ix1, A, s1, r1, Post.bind p1 fun ws s2 vs ix2 H2 r2 x2 z2 p2 => ⟨U, ix2, A, σ, s2, w, ws, r2, WR.tr x2.tr _ _ z1, z2, p2⟩⟩
    · exact p1.elim⟩
theorem f_lm0 {o : Expr} {name : Str} {apos cpos : Pos} {id : String} {α : Type} {k : Kind K α V} {m : W → List W → S → R S α} (slot : Slot "list" name id) (hty : typeOf (.builtin id) = pure (.type "method_descriptor")) (hm : MtR X id (rdM k E m)) (ho : PE X o (rd (kW K) E f))
    (hbase : attributeBase o name X.env (eval o X.env) = eval o X.env := by rfl) (hline : (apos.endLine == cpos.line) = true := by rfl) : PE X (.Call (.Attribute o name apos) [] [] cpos) (rd k E (eLm m f aNil)) := imp_te (e_lm0 slot hty hm ho hbase hline) fun σ H Q ⟨U, ix, A, s, r, p⟩ =>
  ⟨U, ix, A, s, r, Post.bind p fun w s1 x ix1 H1 r1 x1 z1 p1 => by
    split at p1
    · rename_i hq
      cases q : readL s1 w with
      | none => rw [q] at hq; cases hq
      | some ws0 =>
        obtain ⟨a, xs, rfl, h1, h2⟩ := readL_ok r1 z1 q
        exact ⟨a, xs, rfl, h1, U, ix1, A, σ, s1, w, [], r1, z1, .nil, p1⟩
    · exact p1.elim⟩
def wr (s : S) (w : W) (ws : List W) (x : W) : R S W := match wrL s w ws with
  | some s' => .ok x s'
  | none => .no
def mAppend (w : W) (as : List W) (s : S) : R S W := match as, readL s w with
  | [y], some xs => if xs.length < 1000000 ∧ free y = true then wr s w (xs ++ [y]) (.d .none) else .no
  | _, _ => .no
def mPop (w : W) (as : List W) (s : S) : R S W := match as, readL s w with
  | [], some xs => match xs.getLast? with
    | some y => wr s w xs.dropLast y
    | none => .no
  | _, _ => .no
def mPopAt (w : W) (as : List W) (s : S) : R S W := match as, readL s w with
  | [.d (.int k)], some xs => if 0 ≤ k ∧ k ≤ 1000000 then (match xs[k.toNat]? with
    | some y => wr s w (xs.eraseIdx k.toNat) y
    | none => .no) else .no
  | _, _ => .no
def mInsert (w : W) (as : List W) (s : S) : R S W := match as, readL s w with
  | [.d (.int i), y], some xs => if (xs.length < 1000000 ∧ 0 ≤ i ∧ i ≤ 1000000) ∧ free y = true then wr s w (xs.take i.toNat ++ [y] ++ xs.drop i.toNat) (.d .none) else .no
  | _, _ => .no
def mExtend (w : W) (as : List W) (s : S) : R S W := match as, readL s w with
  | [y], some xs => match readL s y with
    | some zs => if xs.length + zs.length ≤ 1000000 ∧ frees zs = true then wr s w (xs ++ zs) (.d .none) else .no
    | none => .no
  | _, _ => .no
theorem wr_ok {s s' : S} {w x y : W} {ws : List W} (h : wr s w ws x = .ok y s') : wrL s w ws = some s' ∧ y = x := by
  unfold wr at h
  split at h
  · cases h
    exact ⟨by assumption, rfl⟩
  · cases h
theorem Post.wr {U ix : List Addr} {A : List (Option Addr)} {σ : L2.St} {H : Hp} {s : S} {Q : V → Hp → Prop} {w x : W} {ws : List W} (p : Post (kW K) U ix A σ H E Q (wr s w ws x)) : ∃ s', wrL s w ws = some s' ∧ Post (kW K) U ix A σ H E Q (.ok x s') := by
  unfold FE.wr at p
  split at p
  · exact ⟨_, by assumption, p⟩
  · exact p.elim
theorem m_Append : MtR X "list.append" (rdM (kW K) E mAppend) := mt_imp m_append fun x vs H Q ⟨U, ix, A, σ, s, w, ws, r, wa, wb, p⟩ => by
  unfold mAppend at p
  split at p
  · rename_i y xs hq
    split at p
    · rename_i hc
      obtain ⟨s', e, p⟩ := p.wr
      obtain ⟨a, us, rfl, h1, h2, h3⟩ := writ_ok r wa hq e
      obtain ⟨v, rfl, h4⟩ := WRs.one wb
      exact ⟨a, us, v, rfl, rfl, h1, by rw [WRs.len h2]; exact hc.1, p.put (v := .non) (ws := []) (xs := []) r wa e h3 (WRs.append h2 (.cons (WR.free _ _ hc.2 h4) .nil)) .mkN⟩
    · exact p.elim
  · exact p.elim
theorem m_Extend : MtR X "list.extend" (rdM (kW K) E mExtend) := mt_imp m_extend fun x vs H Q ⟨U, ix, A, σ, s, w, ws, r, wa, wb, p⟩ => by
  unfold mExtend at p
  split at p
  · rename_i y xs hq
    split at p
    · rename_i zs hz
      split at p
      · rename_i hc
        obtain ⟨s', e, p⟩ := p.wr
        obtain ⟨a, us, rfl, h1, h2, h3⟩ := writ_ok r wa hq e
        obtain ⟨v, rfl, h4⟩ := WRs.one wb
        obtain ⟨b, us2, rfl, h5, h6⟩ := readL_ok r h4 hz
        exact ⟨a, b, us, us2, rfl, rfl, h1, h5, by rw [WRs.len h2, WRs.len h6]; exact hc.1, p.put (v := .non) (ws := []) (xs := []) r wa e h3 (WRs.append h2 (WRs.frees _ _ hc.2 h6)) .mkN⟩
      · exact p.elim
    · exact p.elim
  · exact p.elim
theorem m_Pop : MtR X "list.pop" (rdM (kW K) E mPop) := mt_imp m_pop fun x vs H Q ⟨U, ix, A, σ, s, w, ws, r, wa, wb, p⟩ => by
  unfold mPop at p
  split at p
  · rename_i xs hq
    split at p
    · rename_i y hy
      obtain ⟨s', e, p⟩ := p.wr
      obtain ⟨a, us, rfl, h1, h2, h3⟩ := writ_ok r wa hq e
      cases wb
      have hx : xs = xs.dropLast ++ [y] := by
        obtain ⟨ys, rfl⟩ := List.getLast?_eq_some_iff.mp hy
        rw [List.dropLast_concat]
      rw [hx] at h2
      obtain ⟨us1, v, e1, e2, e3⟩ : ∃ us1 v, us = us1 ++ [v] ∧ WRs K ix [] (avo U ix A) H us1 xs.dropLast ∧ WR K ix [] (avo U ix A) H v y := by
        have hl := WRs.len h2
        have t1 := WRs.take xs.dropLast.length h2
        have t2 := WRs.drop xs.dropLast.length h2
        rw [List.take_left] at t1
        rw [List.drop_left] at t2
        obtain ⟨v, e1, e2⟩ := WRs.one t2
        exact ⟨_, v, by rw [← e1, List.take_append_drop], t1, e2⟩
      subst e1
      exact ⟨a, us1, v, rfl, rfl, h1, p.put (v := .non) (ws := []) (xs := []) r wa e h3 e2 (WR.lift _ _ e3)⟩
    · exact p.elim
  · exact p.elim
theorem m_PopAt : MtR X "list.pop" (rdM (kW K) E mPopAt) := mt_imp m_popAt fun x vs H Q ⟨U, ix, A, σ, s, w, ws, r, wa, wb, p⟩ => by
  unfold mPopAt at p
  split at p
  · rename_i k xs hq
    split at p
    · rename_i hc
      split at p
      · rename_i y hy
        obtain ⟨s', e, p⟩ := p.wr
        obtain ⟨a, us, rfl, h1, h2, h3⟩ := writ_ok r wa hq e
        obtain ⟨v, rfl, h4⟩ := WRs.one wb
        obtain ⟨z, e1, e2⟩ := WRs.get h2 hy
        exact ⟨a, us, k, z, rfl, by rw [WR.int h4], h1, hc, e1, p.put (v := .non) (ws := []) (xs := []) r wa e h3 (WRs.eraseIdx _ h2) (WR.lift _ _ e2)⟩
      · exact p.elim
    · exact p.elim
  · exact p.elim
theorem m_Insert : MtR X "list.insert" (rdM (kW K) E mInsert) := mt_imp m_insert fun x vs H Q ⟨U, ix, A, σ, s, w, ws, r, wa, wb, p⟩ => by
  unfold mInsert at p
  split at p
  · rename_i i y xs hq
    split at p
    · rename_i hc
      obtain ⟨s', e, p⟩ := p.wr
      obtain ⟨a, us, rfl, h1, h2, h3⟩ := writ_ok r wa hq e
      obtain ⟨v, u, rfl, h4, h5⟩ := WRs.two wb
      exact ⟨a, us, i, u, rfl, by rw [WR.int h4], h1, by rw [WRs.len h2]; exact hc.1.1, hc.1.2, p.put (v := .non) (ws := []) (xs := []) r wa e h3 (WRs.append (WRs.append (WRs.take _ h2) (.cons (WR.free _ _ hc.2 h5) .nil)) (WRs.drop _ h2)) .mkN⟩
    · exact p.elim
  · exact p.elim
/-! ### stores: xs[j] = v, xs[i:j] = ys -/
def gIx (o i : EF) (v : W) (s : S) : R S Unit := (o s).bind fun w s => (i s).bind fun j s => match readL s w, j with
  | some xs, .d (.int k) => if (0 ≤ k ∧ k < xs.length) ∧ free v = true then (match wrL s w (xs.set k.toNat v) with
    | some s' => .ok () s'
    | none => .no) else .no
  | _, _ => .no
def setR (K : Fg) : V → V → V → Hp → (Hp → Prop) → Prop := fun o i v H Q => ∃ U ix A σ s w k x xs s', Rel K U ix A σ H s ∧ WR K ix A (avo U ix A) H o w ∧ i = .int k ∧ WR K ix [] (avo U ix A) H v x ∧ readL s w = some xs ∧ (0 ≤ k ∧ k < xs.length) ∧ wrL s w (xs.set k.toNat x) = some s' ∧ ∀ H', Rel K U ix A σ H' s' → Ext ix A H ix A H' → Q H'
theorem bindG {α β : Type} {k : Kind K α β} {U ix : List Addr} {A : List (Option Addr)} {σ : L2.St} {H : Hp} {Q : L2.St → Hp → Prop} {Q1 : β → Hp → Prop} {r : R S α} {f : α → S → R S Unit} (p : PostG K U ix A H E Q (r.bind f))
    (h : ∀ a s b ix' H', Rel K U ix' A σ H' s → Ext ix A H ix' A H' → k.rel U A σ H ix' H' s b a → PostG K U ix' A H' E Q (f a s) → Q1 b H') : Post k U ix A σ H E Q1 r := by
  cases r with
  | no => exact p
  | ok a s => exact fun b ix2 H2 r y z => h a s b ix2 H2 r y z (PostG.mono y p)
  | er e m => exact p
theorem s_Ix : PSet X (setR K) := set_imp s_list fun o i v H Q ⟨U, ix, A, σ, s, w, k, x, xs, s', r, wo, wi, wv, hq, hc, e, p⟩ => by
  obtain ⟨a, us, rfl, h1, h2, h3⟩ := writ_ok r wo hq e
  refine ⟨a, us, k, rfl, wi, h1, by rw [WRs.len h2]; exact hc, fun H1 f1 h1' => ?_⟩
  have x1 : Ext ix A H ix A H1 := .put h3 f1
  have q := wrL_ok (v := .non) (ws := []) r wo e f1 h1' (WRs.tr x1.tr _ _ (WRs.set wv _ h2))
  exact p _ q.1 q.2
theorem g_ix {o i : Expr} {g : EF} (ho : PE X o (rd (kW K) E f)) (hi : PE X i (rd (kW K) E g))
    (ha : ∀ v, assign (.Subscript o i pos) X.env v = (do
      let ov ← holding [v] (eval o X.env)
      let iv ← holding [v, ov] (eval i X.env)
      standAt pos
      holding [v, ov, iv] (setItem ov iv v)
      release [v, ov, iv] []) := by intro _; rfl) : PG X (.Subscript o i pos) (rdG K E (gIx f g)) := imp_pg (pg_sub ho hi (s_Ix (K := K)) ha) fun v σ H Q ⟨U, ix, A, s, x, r, wv, p⟩ => by
  refine ⟨U, ix, A, s, r, bindG p fun w s1 o' ix1 H1 r1 x1 z1 p1 => ⟨U, ix1, A, s1, r1, bindG p1 fun j s2 i' ix2 H2 r2 x2 z2 p2 => ?_⟩⟩
  split at p2
  · rename_i xs k hq
    split at p2
    · rename_i hc
      split at p2
      · rename_i s' e
        exact ⟨U, ix2, A, σ, s2, w, k, x, xs, s', r2, WR.tr x2.tr _ _ z1, WR.int z2, WR.tr (x1.trans x2).tr _ _ wv, hq, hc.1, e, fun H' r' x' => p2 _ _ _ _ r' x'⟩
      · exact p2.elim
    · exact p2.elim
  · exact p2.elim
/-- xs[i:j] = ys, a new list -/
def sSl (o l h : EF) (f : LF) (s : S) : O := bindO (f s) fun ys s => bindO (o s) fun w s => bindO (l s) fun a s => bindO (h s) fun b s => match readL s w, a, b with
  | some xs, .d (.int a), .d (.int c) => if ((0 ≤ a ∧ a ≤ c ∧ c ≤ xs.length) ∧ xs.length + ys.length ≤ 1000000) ∧ frees ys = true then (match wrL s w (xs.take a.toNat ++ ys ++ xs.drop c.toNat) with
    | some s' => .nx s'
    | none => .no) else .no
  | _, _, _ => .no
theorem s_sl {o lo hi ev : Expr} {pt pt2 : Pos} {l h : EF} (he : PE X ev (rd (kL K) E t)) (ho : PE X o (rd (kW K) E f)) (hl : PE X lo (rd (kW K) E l)) (hh : PE X hi (rd (kW K) E h))
    (ha : ∀ v, assign (.Subscript o (.Slice (some lo) (some hi) none pt2) pt) X.env v = (do
      let ov ← holding [v] (eval o X.env)
      let iv ← holding [v, ov] (eval (.Slice (some lo) (some hi) none pt2) X.env)
      standAt pt
      holding [v, ov, iv] (setItem ov iv v)
      release [iv, v, ov] []) := by intro _; rfl)
    (hs : swapsWithSole [.Subscript o (.Slice (some lo) (some hi) none pt2) pt] ev pos.line X.env = pure false := by rfl) (hw : swappedStores [.Subscript o (.Slice (some lo) (some hi) none pt2) pt] ev X.env = pure none := by rfl)
    (h1 : (assignEach [.Subscript o (.Slice (some lo) (some hi) none pt2) pt] X.env).map (·.2) = [assign (.Subscript o (.Slice (some lo) (some hi) none pt2) pt) X.env] := by rfl) :
    PS X (.Assign [.Subscript o (.Slice (some lo) (some hi) none pt2) pt] ev pos) (rdS K E (sSl f l h t)) := imp_ps (ps_asg he (g_slice ho hl hh ha) hs hw h1) fun D σ H ⟨U, ix, A, s, r, p⟩ => by
  refine ⟨U, ix, A, s, r, ?_⟩
  unfold sSl at p
  revert p
  cases t s with
  | no => exact fun p => p
  | er e m => exact fun p => p
  | ok ys s1 =>
    intro p v ix1 H1 r1 x1 z1
    obtain ⟨q, us, rfl, h0, nu, hq, rq, hw0⟩ := z1
    replace p := PostS.mono x1 p
    simp only [bindO] at p
    have weak : ∀ (ix' : List Addr) (H' : Hp) (er : Er) (m : M), PostE K U ix' A H' E er m → PostE K (q :: U) ix' A H' E er m := fun ix' H' er m p c d ix2 A2 H2 r2 u2 x2 z2 => by
      have t : Tr K ix2 (avo (q :: U) ix2 A2) H2 ix2 (avo U ix2 A2) H2 := trs (A' := A) (fun _ _ h => h) fun _ h => List.mem_cons_of_mem _ h
      refine p c d ix2 A2 H2 ⟨r2.len, fun n b a h1 h2 => BR.tr t (fun o h => h) (r2.box n b a h1 h2)⟩ ⟨u2.1, fun u' hu' => u2.2 u' (List.mem_cons_of_mem _ hu')⟩ x2 ⟨z2.1, ?_⟩
      have z := z2.2
      revert z
      cases er.f with
      | none => exact fun h => h
      | some xw => exact fun ⟨p, v, h1, h2, h3⟩ => ⟨p, v, h1, h2, WR.tr t _ _ h3⟩
    refine ⟨q :: U, ix1, A, s1, rq, ?_⟩
    revert p
    cases f s1 with
    | no => exact fun p => p
    | er e m => exact fun p => weak _ _ _ _ p
    | ok w s2 =>
    intro p xo ix2 H2 r2 x2 z2
    replace p := PostS.mono x2 p
    dsimp only at p
    refine ⟨q :: U, ix2, A, s2, r2, ?_⟩
    revert p
    cases l s2 with
    | no => exact fun p => p
    | er e m => exact fun p => weak _ _ _ _ p
    | ok a s3 =>
    intro p xa ix3 H3 r3 x3 z3
    replace p := PostS.mono x3 p
    dsimp only at p
    refine ⟨q :: U, ix3, A, s3, r3, ?_⟩
    revert p
    cases h s3 with
    | no => exact fun p => p
    | er e m => exact fun p => weak _ _ _ _ p
    | ok b s4 =>
    intro p xb ix4 H4 r4 x4 z4
    replace p := PostS.mono x4 p
    dsimp only at p
    split at p
    · rename_i xs a c hr
      split at p
      · rename_i hc
        split at p
        · rename_i s' e
          have wo : WR K ix4 A (avo (q :: U) ix4 A) H4 xo w := WR.tr (x3.trans x4).tr _ _ z2
          obtain ⟨lad, vs, rfl, g1, g2, g3⟩ := writ_ok r4 wo hr e
          have hq4 : H4 q = some (.lst us) := x4.fr.atL (x3.fr.atL (x2.fr.atL hq (rq.un q List.mem_cons_self).1) (r2.un q List.mem_cons_self).1) (r3.un q List.mem_cons_self).1
          have hw4 : WRs K ix4 A (avo (q :: U) ix4 A) H4 us ys := WRs.tr ((x2.trans x3).trans x4).tr _ _ hw0
          refine ⟨lad, q, vs, us, a, c, rfl, rfl, WR.int (WR.tr x4.tr _ _ z3), WR.int z4, g1, hq4, fun z => (r4.un q List.mem_cons_self).1 (z ▸ g3), by rw [WRs.len g2]; exact hc.1.1, by rw [WRs.len g2, WRs.len hw4]; exact hc.1.2, fun H5 f5 h5 => ?_⟩
          have x5 : Ext ix4 A H4 ix4 A H5 := .put g3 f5
          have q5 := wrL_ok (v := .non) (ws := []) r4 wo e f5 h5 (WRs.tr x5.tr _ _ (WRs.append (WRs.append (WRs.take _ g2) (WRs.frees _ _ hc.2 hw4)) (WRs.drop _ g2)))
          exact p _ _ _ _ (Rel.let (U := [q]) q5.1) q5.2
        · exact p.elim
      · exact p.elim
    · exact p.elim
/-! ### texts -/
def allS : List W → Option (List Str)
  | [] => some []
  | .d (.str z) :: r => match allS r with
    | some ss => some (z :: ss)
    | none => none
  | _ => none
theorem allS_ok {ix av : List Addr} {A : List (Option Addr)} {H : Hp} : ∀ {ws : List W} {ss : List Str} {vs : List V}, allS ws = some ss → WRs K ix A av H vs ws → vs = ss.map V.str
  | [], _, _, e, h => by
    cases h
    cases e
    rfl
  | w :: r, ss, _, e, h => by
    cases h with
    | cons h1 h2 =>
      unfold allS at e
      split at e
      · rename_i q
        cases q
      · rename_i z r' q
        cases q
        split at e
        · rename_i ss' q
          cases e
          rw [WR.str h1, allS_ok q h2]
          rfl
        · cases e
      · cases e
theorem allS_map : ∀ ss : List Str, allS (ss.map fun z => .d (.str z)) = some ss
  | [] => rfl
  | z :: ss => by
    show (match allS (ss.map fun z => .d (.str z)) with | some ss => some (z :: ss) | none => none) = _
    rw [allS_map ss]
def eJoin (f g : EF) (s : S) : R S W := (f s).bind fun a s => match a with
  | .d (.str z) => (g s).bind fun w s => match readL s w with
    | some ws => match allS ws with
      | some ss => if (ss.map (·.length)).sum + ss.length * z.length ≤ 1000000 then .ok (.d (.str (Txt.join z ss))) s else .no
      | none => .no
    | none => .no
  | _ => .no
theorem f_join {o : Expr} {apos : Pos} {g : EF} (ho : PE X o (rd (kW K) E f)) (he : PE X e (rd (kW K) E g)) (hs : starEach [e] X.env = [(false, eval e X.env)] := by rfl) (hb : attributeBase o "join" X.env (eval o X.env) = eval o X.env := by rfl) (hl : (apos.endLine == pos.line) = true := by rfl) (hK : X.K = K := by rfl) :
    PE X (.Call (.Attribute o "join" apos) [e] [] pos) (rd (kW K) E (eJoin f g)) := by
  subst hK
  refine imp_te (e_join (e_mo ho) he hs hb hl) fun σ H Q ⟨U, ix, A, s, r, p⟩ => ⟨_, ⟨U, ix, A, s, r, Post.bind p fun a s1 x ix1 H1 r1 x1 z1 p1 => (?_ : (fun x H1 => ∃ a, x = V.str a ∧ rd (kW X.K) E g σ H1 fun y H2 => ∃ p, ∃ ys : List Str, y = .ref p ∧ H2 p = some (.lst (ys.map V.str)) ∧ (ys.map (·.length)).sum + ys.length * a.length ≤ 1000000 ∧ Q (.str (Txt.join a ys)) H2) x H1)⟩, fun _ _ q => q⟩
  split at p1
  · rename_i z
    refine ⟨z, WR.str z1, U, ix1, A, s1, r1, Post.bind p1 fun w s2 y ix2 H2 r2 x2 z2 p2 => ?_⟩
    split at p2
    · rename_i ws hr
      split at p2
      · rename_i ss hss
        split at p2
        · rename_i hl
          obtain ⟨b, xs, rfl, h1, h2⟩ := readL_ok r2 z2 hr
          rw [allS_ok hss h2] at h1
          exact ⟨b, ss, rfl, h1, hl, p2.done r2 (.mkS _)⟩
        · exact p2.elim
      · exact p2.elim
    · exact p2.elim
  · exact p1.elim
end
end FE

/-! FE9: further rules. -/
namespace FE
open PySem PySem.Spec PyProof.Rows L2 KR
def rvT (w : W) (s : S) : R S W := match readT w with
  | some ws => .ok (mkT ws.reverse) s
  | none => .no
def oNeg (w : W) (s : S) : R S W := match w with
  | .d (.int i) => .ok (.d (.int (-i))) s
  | _ => .no
section
variable {X : Cx} {K : Fg} {E : XK} {pos : Pos} {e : Expr} {f : EF}
theorem f_rvT {k : Nat} {p1 p2 p3 : Pos} (he : PE X e (rd (kW K) E f)) (hK : X.K = K := by rfl) : PE X (.Subscript e (.Slice none none (some (.UnaryOp .USub (.Constant (.int 1) k p1) p2)) p3) pos) (rd (kW K) E (eUn rvT f)) := by
  subst hK
  refine imp_te (pe_revT he) fun σ H Q ⟨U, ix, A, s, r, p⟩ => ⟨U, ix, A, s, r, Post.bind p fun w s1 x ix1 H1 r1 x1 z1 p1 => ?_⟩
  unfold rvT at p1
  split at p1
  · rename_i ws h
    obtain ⟨a, xs, rfl, h1, h2⟩ := readT_ok z1 h
    exact ⟨a, xs, rfl, h1, p1.newT r1 (WRs.rev h2)⟩
  · exact p1.elim
theorem o_Neg : UnR X (unaryOp .USub) (rdU (kW K) E oNeg) := by
  intro pins s0 σ0 H x v Q I rx q
  refine un_neg pins s0 σ0 H x v Q I rx ?_
  obtain ⟨U, ix, A, σ, s, a, r, wa, p⟩ := q
  unfold oNeg at p
  split at p
  · exact ⟨_, WR.int wa, p.done r (.mkI _)⟩
  · exact p.elim
end
section
variable {P : Program} {w : World} {K : Fg} {mg : Str → Option Value} {base : Heap}
theorem law_fn {x qual : Str} {st : Stmt} {f : Addr} {fd : FuncData} {N ps : List Str} {k n : Nat} {g : SF} (F : FunD K x qual (defArgs st) (defBody st) (defScope st) [] [] f fd) (S : FnScope N ps (defScope st)) (hn : ps.length = n)
    (hbody : ∀ (cdv : Value) (A : Around) (outer : List Env) (s : Shared) (H : Hp) (E : XK), Room k (A.deeper (envOfC qual (defScope st) s.heap.objs.size f cdv)) → PSs (cxOf (L2.CX P w) P w K mg base N qual (defScope st) f cdv A outer s H E) (defBody st) (rdS K E g)) :
    FnOk P w K mg base (L2.CX P w) (k + 1) f fd ps (spF K n (fnF N.length n g)) := F.ok S (spF_len hn) fun cdv A outer s H vs Q E hr sp => ⟨_, hbody cdv A outer s H E hr, fnF_ok sp⟩
end
end FE

/-! FX: words for evaluation. -/
namespace FE
open PySem PySem.Spec L2 KR
section
variable {σ α β : Type}
theorem bind_ok {a : α} {s : σ} {k : α → σ → R σ β} : (R.ok a s).bind k = k a s := rfl
theorem bindO_ok {a : α} {s : σ} {k : α → σ → O} : bindO (.ok a s) k = k a s := rfl
end
section
variable {i j : Int} {s : S} {x y : Str}
theorem x_add : oAdd (.d (.int i)) (.d (.int j)) s = .ok (.d (.int (i + j))) s := (rfl)
theorem x_sub : oSub (.d (.int i)) (.d (.int j)) s = .ok (.d (.int (i - j))) s := (rfl)
theorem x_mul (h : -4611686018427387904 < j ∧ j < 4611686018427387904) : oMul (.d (.int i)) (.d (.int j)) s = .ok (.d (.int (i * j))) s := by simp [oMul, oI, h]
theorem x_mod (h : 0 < j) : oMod (.d (.int i)) (.d (.int j)) s = .ok (.d (.int (i % j))) s := by simp [oMod, oI, h]
theorem x_div (h : 0 < j ∧ j < 1000000000) : oDiv (.d (.int i)) (.d (.int j)) s = .ok (.d (.int (i / j))) s := by simp [oDiv, oI, h]
theorem x_pow (h : 0 ≤ j ∧ j ≤ 1000000 ∧ 0 ≤ i ∧ i < 4611686018427387904) : oPow (.d (.int i)) (.d (.int j)) s = .ok (.d (.int (i ^ j.toNat))) s := by simp [oPow, oI, h]
theorem x_lt : oLt (.d (.int i)) (.d (.int j)) s = .ok (.d (.bool (decide (i < j)))) s := (rfl)
theorem x_le : oLe (.d (.int i)) (.d (.int j)) s = .ok (.d (.bool (decide (i ≤ j)))) s := (rfl)
theorem x_gt : oGt (.d (.int i)) (.d (.int j)) s = .ok (.d (.bool (decide (j < i)))) s := (rfl)
theorem x_ge : oGe (.d (.int i)) (.d (.int j)) s = .ok (.d (.bool (decide (j ≤ i)))) s := (rfl)
theorem x_addS (h : x.length + y.length ≤ 1000000) : oAddS (.d (.str x)) (.d (.str y)) s = .ok (.d (.str (x ++ y))) s := by simp [oAddS, oS, h]
theorem x_ltS : oLtS (.d (.str x)) (.d (.str y)) s = .ok (.d (.bool (decide (x.cps.toList < y.cps.toList)))) s := (rfl)
theorem x_leS : oLeS (.d (.str x)) (.d (.str y)) s = .ok (.d (.bool (!decide (y.cps.toList < x.cps.toList)))) s := (rfl)
theorem x_eqI {n : Bool} : oEq n (.d (.int i)) (.d (.int j)) s = .ok (.d (.bool (if n = true then !decide (i = j) else decide (i = j)))) s := (rfl)
theorem x_eqS {n : Bool} : oEq n (.d (.str x)) (.d (.str y)) s = .ok (.d (.bool (if n = true then !decide (x = y) else decide (x = y)))) s := (rfl)
theorem x_eqB {n a b : Bool} : oEq n (.d (.bool a)) (.d (.bool b)) s = .ok (.d (.bool (if n = true then !decide (a = b) else decide (a = b)))) s := (rfl)
theorem atI_pos {α : Type} {xs : List α} {i : Int} (h : 0 ≤ i) : atI xs i = xs[i.toNat]? := by
  unfold atI ixN
  rw [if_pos h]
  by_cases c : i < xs.length
  · rw [if_pos c]
    rfl
  · rw [if_neg c, List.getElem?_eq_none (by omega)]
    rfl
end
/-! ### evaluation, argument by argument: what is left to do has a name -/
section
variable {α : Type} {s : S} {sl : List Sl} {m : M} {f g h : EF} {l l2 : LF} {a b w : W} {ws r : List W} {t u : S → R S Bool} {p q : SF}
def k1 (o : W → W → S → R S α) (g : EF) (r : R S W) : R S α := r.bind fun a s => (g s).bind fun b s => o a b s
def k2 (o : W → W → S → R S α) (a : W) (r : R S W) : R S α := r.bind fun b s => o a b s
theorem y_bin {o : W → W → S → R S α} : eBin o f g s = k1 o g (f s) := (rfl)
theorem y_k1 {o : W → W → S → R S α} : k1 o g (.ok a s) = k2 o a (g s) := (rfl)
theorem y_k2 {o : W → W → S → R S α} : k2 o a (.ok b s) = o a b s := (rfl)
def kU (o : W → S → R S α) (r : R S W) : R S α := r.bind fun a s => o a s
theorem y_un {o : W → S → R S α} : eUn o f s = kU o (f s) := (rfl)
theorem y_kU {o : W → S → R S α} : kU o (.ok a s) = o a s := (rfl)
def c1 (o o2 : W → W → S → R S W) (g h : EF) (r : R S W) : R S W := r.bind fun a s => (g s).bind fun b s => (o a b s).bind fun w s => match w with
  | .d (.bool true) => (h s).bind fun c s => o2 b c s
  | .d (.bool false) => .ok (.d (.bool false)) s
  | _ => .no
def c2 (o o2 : W → W → S → R S W) (a : W) (h : EF) (r : R S W) : R S W := r.bind fun b s => (o a b s).bind fun w s => match w with
  | .d (.bool true) => (h s).bind fun c s => o2 b c s
  | .d (.bool false) => .ok (.d (.bool false)) s
  | _ => .no
def c3 (o2 : W → W → S → R S W) (b : W) (h : EF) (r : R S W) : R S W := r.bind fun w s => match w with
  | .d (.bool true) => (h s).bind fun c s => o2 b c s
  | .d (.bool false) => .ok (.d (.bool false)) s
  | _ => .no
theorem y_chain {o o2 : W → W → S → R S W} : eChain o o2 f g h s = c1 o o2 g h (f s) := (rfl)
theorem y_c1 {o o2 : W → W → S → R S W} : c1 o o2 g h (.ok a s) = c2 o o2 a h (g s) := (rfl)
theorem y_c2 {o o2 : W → W → S → R S W} : c2 o o2 a h (.ok b s) = c3 o2 b h (o a b s) := (rfl)
theorem y_c3t {o2 : W → W → S → R S W} : c3 o2 b h (.ok (.d (.bool true)) s) = k2 o2 b (h s) := (rfl)
theorem y_c3f {o2 : W → W → S → R S W} : c3 o2 b h (.ok (.d (.bool false)) s) = .ok (.d (.bool false)) s := (rfl)
def kAnd (g : EF) (r : R S W) : R S W := r.bind fun a s => match a with
  | .d (.bool true) => g s
  | .d (.bool false) => .ok (.d (.bool false)) s
  | _ => .no
theorem y_and : eAnd f g s = kAnd g (f s) := (rfl)
theorem y_andt : kAnd g (.ok (.d (.bool true)) s) = g s := (rfl)
theorem y_andf : kAnd g (.ok (.d (.bool false)) s) = .ok (.d (.bool false)) s := (rfl)
def kOr (g : EF) (r : R S W) : R S W := r.bind fun a s => match a with
  | .d (.bool false) => g s
  | .d (.bool true) => .ok (.d (.bool true)) s
  | _ => .no
theorem y_or : eOr f g s = kOr g (f s) := (rfl)
theorem y_ort : kOr g (.ok (.d (.bool true)) s) = .ok (.d (.bool true)) s := (rfl)
theorem y_orf : kOr g (.ok (.d (.bool false)) s) = g s := (rfl)
def kB' (r : R S W) : R S Bool := r.bind fun a s => match a with
  | .d (.bool b) => .ok b s
  | _ => .no
theorem y_cB : cB f s = kB' (f s) := (rfl)
theorem y_kB {b : Bool} : kB' (.ok (.d (.bool b)) s) = .ok b s := (rfl)
def kNot (r : R S Bool) : R S Bool := r.bind fun b s => .ok (!b) s
theorem y_cNot : cNot t s = kNot (t s) := (rfl)
theorem y_kNot {b : Bool} : kNot (.ok b s) = .ok (!b) s := (rfl)
def kCA (u : S → R S Bool) (r : R S Bool) : R S Bool := r.bind fun b s => if b = true then u s else .ok false s
theorem y_cAnd : cAnd t u s = kCA u (t s) := (rfl)
theorem y_cAt : kCA u (.ok true s) = u s := (rfl)
theorem y_cAf : kCA u (.ok false s) = .ok false s := (rfl)
def kCO (u : S → R S Bool) (r : R S Bool) : R S Bool := r.bind fun b s => if b = true then .ok true s else u s
theorem y_cOr : cOr t u s = kCO u (t s) := (rfl)
theorem y_cOt : kCO u (.ok true s) = .ok true s := (rfl)
theorem y_cOf : kCO u (.ok false s) = u s := (rfl)
def kIf (f g : EF) (r : R S Bool) : R S W := r.bind fun b s => if b = true then f s else g s
theorem y_if : eIf t f g s = kIf f g (t s) := (rfl)
theorem y_ift : kIf f g (.ok true s) = f s := (rfl)
theorem y_iff : kIf f g (.ok false s) = g s := (rfl)
def kc1 (g : LF) (r : R S W) : R S (List W) := r.bind fun a s => (g s).bind fun r s => .ok (a :: r) s
def kc2 (a : W) (r : R S (List W)) : R S (List W) := r.bind fun r s => .ok (a :: r) s
theorem y_nil : aNil s = .ok [] s := (rfl)
theorem y_cons : aCons f l s = kc1 l (f s) := (rfl)
theorem y_kc1 : kc1 l (.ok a s) = kc2 a (l s) := (rfl)
theorem y_kc2 : kc2 a (.ok r s) = .ok (a :: r) s := (rfl)
def kTup (r : R S (List W)) : R S W := r.bind fun ws s => if ws.length ≤ 1000000 then .ok (mkT ws) s else .no
theorem y_tup : eTup l s = kTup (l s) := (rfl)
theorem y_kTup (h : ws.length ≤ 1000000) : kTup (.ok ws s) = .ok (mkT ws) s := by simp [kTup, R.bind, h]
def kLst (r : R S (List W)) : R S (List W) := r.bind fun ws s => if ws.length ≤ 1000000 then .ok ws s else .no
theorem y_lst : eLst l s = kLst (l s) := (rfl)
theorem y_kLst (h : ws.length ≤ 1000000) : kLst (.ok ws s) = .ok ws s := by simp [kLst, R.bind, h]
def kF (r : R S (List W)) : R S W := r.bind fun ws s => .ok (mkL ws) s
theorem y_F : eF l s = kF (l s) := (rfl)
theorem y_kF : kF (.ok ws s) = .ok (mkL ws) s := (rfl)
def kBx (r : R S (List W)) : R S W := r.bind fun ws s => if frees ws = true then .ok (.ref s.m.length) { s with m := s.m ++ [.lst ws] } else .no
theorem y_Bx : eBx l s = kBx (l s) := (rfl)
theorem y_kBx (h : frees ws = true) : kBx (.ok ws ⟨sl, m⟩) = .ok (.ref m.length) ⟨sl, m ++ [.lst ws]⟩ := by simp [kBx, R.bind, h]
def kEB (o : List W → S → R S α) (r : R S (List W)) : R S α := r.bind fun ws s => o ws s
theorem y_B {o : List W → S → R S α} : eB o l s = kEB o (l s) := (rfl)
theorem y_kEB {o : List W → S → R S α} : kEB o (.ok ws s) = o ws s := (rfl)
def kCall (n : Nat) (F : FF) (r : R S (List W)) : R S W := r.bind fun ws s => callF n F ws s
theorem y_call {n : Nat} {F : FF} : eCall n F l s = kCall n F (l s) := (rfl)
/-- what a def hands back goes on -/
def kRet (sl : List Sl) (r : R M W) : R S W := match r with
  | .no => .no
  | .ok w m => .ok w ⟨sl, m⟩
  | .er e m => .er e m
theorem y_kCall {n : Nat} {F : FF} (h : ws.length = n) (h2 : frees ws = true) : kCall n F (.ok ws ⟨sl, m⟩) = kRet sl (F ws m) := by
  simp only [kCall, R.bind, callF, h, h2, and_self, if_true]
  cases F ws m <;> rfl
theorem y_kRet {w : W} : kRet sl (.ok w m) = .ok w ⟨sl, m⟩ := (rfl)
theorem y_V {i0 : Nat} : eV i0 ⟨sl, m⟩ = (match sl[i0]? with | some (.v w) => .ok w ⟨sl, m⟩ | some (.own _) => .ok (.own i0) ⟨sl, m⟩ | _ => .no) := (rfl)
theorem y_C {d : PyData} : eC d s = .ok (.d d) s := (rfl)
/-! statements -/
def kSeq (q : SF) (o : O) : O := match o with
  | .nx s => q s
  | o => o
theorem y_seq : sSeq p q s = kSeq q (p s) := (rfl)
theorem y_kSn : kSeq q (.nx s) = q s := (rfl)
theorem y_kSr : kSeq q (.rt w s) = .rt w s := (rfl)
theorem y_kSb : kSeq q (.bk s) = .bk s := (rfl)
theorem y_kSc : kSeq q (.ct s) = .ct s := (rfl)
theorem y_kSe {e : Er} : kSeq q (.er e m) = .er e m := (rfl)
def kSI (p q : SF) (r : R S Bool) : O := bindO r fun b s => if b = true then p s else q s
theorem y_sIf : sIf t p q s = kSI p q (t s) := (rfl)
theorem y_kSIt : kSI p q (.ok true s) = p s := (rfl)
theorem y_kSIf : kSI p q (.ok false s) = q s := (rfl)
def kSE (r : R S W) : O := bindO r fun _ s => .nx s
theorem y_sE : sE f s = kSE (f s) := (rfl)
theorem y_kSE : kSE (.ok w s) = .nx s := (rfl)
def kSR (r : R S W) : O := bindO r fun w s => .rt w s
theorem y_ret : sRet f s = kSR (f s) := (rfl)
theorem y_kSR : kSR (.ok w s) = .rt w s := (rfl)
def kSet (i : Nat) (r : R S W) : O := bindO r fun w s => if free w = true then .nx { s with sl := s.sl.set i (.v w) } else .no
theorem y_set {i : Nat} : sSet i f s = kSet i (f s) := (rfl)
theorem y_kSet {i : Nat} (h : free w = true) : kSet i (.ok w ⟨sl, m⟩) = .nx ⟨sl.set i (.v w), m⟩ := by simp [kSet, bindO, h]
def kOwn (i : Nat) (r : R S (List W)) : O := bindO r fun ws s => if frees ws = true then .nx { s with sl := s.sl.set i (.own ws) } else .no
theorem y_own {i : Nat} : sOwn i l s = kOwn i (l s) := (rfl)
theorem y_kOwn {i : Nat} (h : frees ws = true) : kOwn i (.ok ws ⟨sl, m⟩) = .nx ⟨sl.set i (.own ws), m⟩ := by simp [kOwn, bindO, h]
def kAsg (g : GF) (r : R S W) : O := bindO r fun w s => if free w = true then bindO (g w s) fun _ s => .nx s else .no
def kNx (r : R S Unit) : O := bindO r fun _ s => .nx s
theorem y_asg {g : GF} : sAsg f g s = kAsg g (f s) := (rfl)
theorem y_kAsg {g : GF} (h : free w = true) : kAsg g (.ok w s) = kNx (g w s) := by simp [kAsg, kNx, bindO, h]
theorem y_kNx {x : Unit} : kNx (.ok x s) = .nx s := (rfl)
def kFor (g : GF) (b : SF) (r : R S (List W)) : O := bindO r fun ws s => loopF g b ws s
theorem y_for {g : GF} {b : SF} : sFor l g b s = kFor g b (l s) := (rfl)
theorem y_kFor {g : GF} {b : SF} : kFor g b (.ok ws s) = loopF g b ws s := (rfl)
def kL2 (g : GF) (b : SF) (xs : List W) (o : O) : O := match o with
  | .nx s => loopF g b xs s
  | .ct s => loopF g b xs s
  | .bk s => .nx s
  | o => o
def kL1 (g : GF) (b : SF) (xs : List W) (r : R S Unit) : O := bindO r fun _ s => kL2 g b xs (b s)
theorem y_loop0 {g : GF} {b : SF} : loopF g b [] s = .nx s := (rfl)
theorem y_loop {g : GF} {b : SF} {x : W} {xs : List W} : loopF g b (x :: xs) s = kL1 g b xs (g x s) := by
  simp only [loopF, kL1]
  cases g x s with
  | ok _ s =>
    simp only [bindO, kL2]
    all_goals cases b s <;> rfl
  | no => rfl
  | er e m => rfl
theorem y_kL1 {g : GF} {b : SF} {xs : List W} {x : Unit} : kL1 g b xs (.ok x s) = kL2 g b xs (b s) := (rfl)
theorem y_kL2n {g : GF} {b : SF} {xs : List W} : kL2 g b xs (.nx s) = loopF g b xs s := (rfl)
theorem y_kL2c {g : GF} {b : SF} {xs : List W} : kL2 g b xs (.ct s) = loopF g b xs s := (rfl)
theorem y_kL2b {g : GF} {b : SF} {xs : List W} : kL2 g b xs (.bk s) = .nx s := (rfl)
theorem y_kL2r {g : GF} {b : SF} {xs : List W} : kL2 g b xs (.rt w s) = .rt w s := (rfl)
theorem y_kL2e {g : GF} {b : SF} {xs : List W} {e : Er} : kL2 g b xs (.er e m) = .er e m := (rfl)
def kP1 (i j : Nat) (g : EF) (r : R S W) : O := bindO r fun a s => bindO (g s) fun b s => if free a = true ∧ free b = true then .nx { s with sl := (s.sl.set i (.v a)).set j (.v b) } else .no
def kP2 (i j : Nat) (a : W) (r : R S W) : O := bindO r fun b s => if free a = true ∧ free b = true then .nx { s with sl := (s.sl.set i (.v a)).set j (.v b) } else .no
theorem y_par {i j : Nat} : sPar i j f g s = kP1 i j g (f s) := (rfl)
theorem y_kP1 {i j : Nat} : kP1 i j g (.ok a s) = kP2 i j a (g s) := (rfl)
theorem y_kP2 {i j : Nat} (h : free a = true) (h2 : free b = true) : kP2 i j a (.ok b ⟨sl, m⟩) = .nx ⟨(sl.set i (.v a)).set j (.v b), m⟩ := by simp [kP2, bindO, h, h2]
def kQ1 (i j : Nat) (g : LF) (r : R S (List W)) : O := bindO r fun a s => bindO (g s) fun b s => if frees a = true ∧ frees b = true then .nx { s with sl := (s.sl.set i (.own a)).set j (.own b) } else .no
def kQ2 (i j : Nat) (a : List W) (r : R S (List W)) : O := bindO r fun b s => if frees a = true ∧ frees b = true then .nx { s with sl := (s.sl.set i (.own a)).set j (.own b) } else .no
theorem y_parL {i j : Nat} : sParL i j l l2 s = kQ1 i j l2 (l s) := (rfl)
theorem y_kQ1 {i j : Nat} : kQ1 i j l2 (.ok ws s) = kQ2 i j ws (l2 s) := (rfl)
theorem y_kQ2 {i j : Nat} (h : frees ws = true) (h2 : frees r = true) : kQ2 i j ws (.ok r ⟨sl, m⟩) = .nx ⟨(sl.set i (.own ws)).set j (.own r), m⟩ := by simp [kQ2, bindO, h, h2]
/-! a def -/
def kFin (o : O) : R M W := match o with
  | .nx s => .ok (.d .none) s.m
  | .rt w s => match finW s w with
    | some r => .ok r s.m
    | none => .no
  | .er e m => .er e m
  | _ => .no
theorem y_fn {N n : Nat} {g : SF} (h : ws.length = n) : fnF N n g ws m = kFin (g ⟨ws.map .v ++ List.replicate (N - n) .no, m⟩) := by
  unfold fnF
  rw [if_pos h]
  unfold kFin
  cases g ⟨ws.map .v ++ List.replicate (N - n) .no, m⟩ <;> rfl
theorem y_finN : kFin (.nx ⟨sl, m⟩) = .ok (.d .none) m := (rfl)
theorem y_finR {x : W} (h : finW ⟨sl, m⟩ w = some x) : kFin (.rt w ⟨sl, m⟩) = .ok x m := by simp [kFin, h]
theorem y_finD {d : PyData} : kFin (.rt (.d d) ⟨sl, m⟩) = .ok (.d d) m := (rfl)
theorem y_finRef {n : Nat} : kFin (.rt (.ref n) ⟨sl, m⟩) = .ok (.ref n) m := (rfl)
theorem y_finT : kFin (.rt (.tw ws) ⟨sl, m⟩) = (match finEs ⟨sl, m⟩ ws with | some r => .ok (mkT r) m | none => .no) := by
  unfold kFin finW
  simp only
  cases finEs ⟨sl, m⟩ ws <;> rfl
theorem y_finE {e : Er} : kFin (.er e m) = .er e m := (rfl)
/-! walks, slices, methods -/
def kIt (sq : W → Option (List W)) (r : R S W) : R S (List W) := r.bind fun w s => match sq w with
  | some ws => if ws.length ≤ 100000 ∧ frees ws = true then .ok ws s else .no
  | none => .no
theorem y_it {sq : W → Option (List W)} : eIt sq f s = kIt sq (f s) := (rfl)
theorem y_kItL {ds : List PyData} (h : ds.length ≤ 100000) : kIt seqL (.ok (.d (.list ds)) s) = .ok (ds.map .d) s := by simp [kIt, R.bind, seqL, h, frees_map]
theorem y_kItT {ds : List PyData} (h : ds.length ≤ 100000) : kIt readT (.ok (.d (.tuple ds)) s) = .ok (ds.map .d) s := by simp [kIt, R.bind, readT, h, frees_map]
theorem y_kItlw (h : ws.length ≤ 100000) (h2 : frees ws = true) : kIt seqL (.ok (.lw ws) s) = .ok ws s := by simp [kIt, R.bind, seqL, h, h2]
theorem y_kItscr {ns : List Int} (h : ns.length ≤ 100000) : kIt seqL (.ok (.scr ns) s) = .ok (ns.map fun n => .d (.int n)) s := by
  have : (ns.map fun n => W.d (.int n)) = (ns.map PyData.int).map W.d := by rw [List.map_map]; rfl
  have h2 : frees (ns.map fun n => W.d (.int n)) = true := by rw [this]; exact frees_map _
  simp only [kIt, R.bind, seqL, List.length_map, h, h2, and_self, if_true]
theorem signs_map (z : Str) : signs z = (z.cps.toList.map fun c => PyData.str ⟨#[c]⟩).map W.d := by
  unfold signs
  rw [List.map_map]
  rfl
theorem y_kItS {z : Str} (h : z.length ≤ 100000) : kIt seqS (.ok (.d (.str z)) s) = .ok (signs z) s := by
  have h' : z.cps.size ≤ 100000 := h
  have h2 : frees (signs z) = true := by rw [signs_map]; exact frees_map _
  have h3 : (signs z).length ≤ 100000 := by simpa [signs] using h'
  simp only [kIt, R.bind, seqS, h2, h3, and_self, if_true]
def kR1 (r : R S (List W)) : R S (List W) := r.bind fun ws s => match ws with
  | [.d (.int j)] => if -40000 ≤ j ∧ j ≤ 40000 then .ok ((List.range j.toNat).map fun (i : Nat) => .d (.int i)) s else .no
  | _ => .no
theorem y_rng1 : eRng1 l s = kR1 (l s) := (rfl)
theorem y_kR1 {j : Int} (h : -40000 ≤ j) (h2 : j ≤ 40000) : kR1 (.ok [.d (.int j)] s) = .ok ((List.range j.toNat).map fun (i : Nat) => .d (.int i)) s := by simp [kR1, R.bind, h, h2]
def kR2 (r : R S (List W)) : R S (List W) := r.bind fun ws s => match ws with
  | [.d (.int i), .d (.int j)] => if (-40000 ≤ i ∧ i ≤ 40000) ∧ -40000 ≤ j ∧ j ≤ 40000 then .ok ((List.range (j - i).toNat).map fun (n : Nat) => .d (.int (i + n))) s else .no
  | _ => .no
theorem y_rng2 : eRng2 l s = kR2 (l s) := (rfl)
theorem y_kR2 {i j : Int} (h : -40000 ≤ i) (h2 : i ≤ 40000) (h3 : -40000 ≤ j) (h4 : j ≤ 40000) : kR2 (.ok [.d (.int i), .d (.int j)] s) = .ok ((List.range (j - i).toNat).map fun (n : Nat) => .d (.int (i + n))) s := by simp [kR2, R.bind, h, h2, h3, h4]
def kX (r : R S W) : R S (Option Int) := r.bind fun w s => match w with
  | .d (.int i) => .ok (some i) s
  | _ => .no
theorem y_xN : xN s = .ok none s := (rfl)
theorem y_xS : xS f s = kX (f s) := (rfl)
theorem y_kX {i : Int} : kX (.ok (.d (.int i)) s) = .ok (some i) s := (rfl)
def l1 (o : W → Option Int → Option Int → S → R S α) (x y : S → R S (Option Int)) (r : R S W) : R S α := r.bind fun w s => (x s).bind fun a s => (y s).bind fun b s => o w a b s
def l2' (o : W → Option Int → Option Int → S → R S α) (w : W) (y : S → R S (Option Int)) (r : R S (Option Int)) : R S α := r.bind fun a s => (y s).bind fun b s => o w a b s
def l3 (o : W → Option Int → Option Int → S → R S α) (w : W) (a : Option Int) (r : R S (Option Int)) : R S α := r.bind fun b s => o w a b s
theorem y_sl {o : W → Option Int → Option Int → S → R S α} {x y : S → R S (Option Int)} : eSl o f x y s = l1 o x y (f s) := (rfl)
theorem y_l1 {o : W → Option Int → Option Int → S → R S α} {x y : S → R S (Option Int)} : l1 o x y (.ok w s) = l2' o w y (x s) := (rfl)
theorem y_l2 {o : W → Option Int → Option Int → S → R S α} {y : S → R S (Option Int)} {z : Option Int} : l2' o w y (.ok z s) = l3 o w z (y s) := (rfl)
theorem y_l3 {o : W → Option Int → Option Int → S → R S α} {z z2 : Option Int} : l3 o w z (.ok z2 s) = o w z z2 s := (rfl)
def kM1 (o : W → List W → S → R S α) (g : LF) (r : R S W) : R S α := r.bind fun w s => if (readL s w).isSome = true then (g s).bind fun ws s => o w ws s else .no
def kM2 (o : W → List W → S → R S α) (w : W) (r : R S (List W)) : R S α := r.bind fun ws s => o w ws s
theorem y_lm {o : W → List W → S → R S α} : eLm o f l s = kM1 o l (f s) := (rfl)
def kM3 (o : W → List W → S → R S α) (g : LF) (w : W) (s : S) (x : Option (List W)) : R S α := match x with
  | some _ => kM2 o w (g s)
  | none => .no
theorem y_kM1 {o : W → List W → S → R S α} : kM1 o l (.ok w s) = kM3 o l w s (readL s w) := by
  simp only [kM1, kM2, R.bind, kM3]
  cases readL s w <;> rfl
theorem y_kM3 {o : W → List W → S → R S α} {x : List W} : kM3 o l w s (some x) = kM2 o w (l s) := (rfl)
theorem y_kM2 {o : W → List W → S → R S α} : kM2 o w (.ok ws s) = o w ws s := (rfl)
def kG1 (v : W) (i : EF) (r : R S W) : R S Unit := r.bind fun w s => (i s).bind fun j s => match readL s w, j with
  | some xs, .d (.int k) => if (0 ≤ k ∧ k < xs.length) ∧ free v = true then (match wrL s w (xs.set k.toNat v) with
    | some s' => .ok () s'
    | none => .no) else .no
  | _, _ => .no
def kG2 (v w : W) (r : R S W) : R S Unit := r.bind fun j s => match readL s w, j with
  | some xs, .d (.int k) => if (0 ≤ k ∧ k < xs.length) ∧ free v = true then (match wrL s w (xs.set k.toNat v) with
    | some s' => .ok () s'
    | none => .no) else .no
  | _, _ => .no
theorem y_gIx {v : W} : gIx f g v s = kG1 v g (f s) := (rfl)
theorem y_kG1 {v : W} : kG1 v g (.ok w s) = kG2 v w (g s) := (rfl)
def kG4 (o : Option S) : R S Unit := match o with
  | some s' => .ok () s'
  | none => .no
def kG3 (v w : W) (k : Int) (s : S) (o : Option (List W)) : R S Unit := match o with
  | some xs => if (0 ≤ k ∧ k < xs.length) ∧ free v = true then kG4 (wrL s w (xs.set k.toNat v)) else .no
  | none => .no
theorem y_kG2 {v : W} {k : Int} : kG2 v w (.ok (.d (.int k)) s) = kG3 v w k s (readL s w) := by
  simp only [kG2, R.bind, kG3]
  cases readL s w with
  | none => rfl
  | some xs =>
    simp only [kG4]
theorem y_kG3 {v : W} {k : Int} {xs : List W} (h1 : 0 ≤ k) (h2 : k < xs.length) (h3 : free v = true) : kG3 v w k s (some xs) = kG4 (wrL s w (xs.set k.toNat v)) := by simp [kG3, h1, h2, h3]
theorem y_kG4 : kG4 (some s) = .ok () s := (rfl)
theorem y_gN {i : Nat} (h : free w = true) : gN i w ⟨sl, m⟩ = .ok () ⟨sl.set i (.v w), m⟩ := by simp [gN, h]
def kIs (x : String) (r : R S W) : R S W := r.bind fun w s => match kindW s w with
  | some k => if okKind x = true then .ok (.d (.bool (isB k x))) s else .no
  | none => .no
theorem y_isi {x : String} : eIsi f x s = kIs x (f s) := (rfl)
theorem y_kIs {x : String} {d : PyData} (h : okKind x = true) : kIs x (.ok (.d d) s) = .ok (.d (.bool (isK d x))) s := by simp [kIs, R.bind, kindW, h, isK]
def kJ1 (g : EF) (r : R S W) : R S W := r.bind fun a s => match a with
  | .d (.str z) => (g s).bind fun w s => match readL s w with
    | some ws => match allS ws with
      | some ss => if (ss.map (·.length)).sum + ss.length * z.length ≤ 1000000 then .ok (.d (.str (Txt.join z ss))) s else .no
      | none => .no
    | none => .no
  | _ => .no
def kJ2 (z : Str) (r : R S W) : R S W := r.bind fun w s => match readL s w with
  | some ws => match allS ws with
    | some ss => if (ss.map (·.length)).sum + ss.length * z.length ≤ 1000000 then .ok (.d (.str (Txt.join z ss))) s else .no
    | none => .no
  | none => .no
theorem y_join : eJoin f g s = kJ1 g (f s) := (rfl)
theorem y_kJ1 {z : Str} : kJ1 g (.ok (.d (.str z)) s) = kJ2 z (g s) := (rfl)
theorem y_kJ2 {z : Str} {ss : List Str} (h : (ss.map (·.length)).sum + ss.length * z.length ≤ 1000000) : kJ2 z (.ok (.d (.list (ss.map .str))) s) = .ok (.d (.str (Txt.join z ss))) s := by
  have e : (ss.map PyData.str).map W.d = ss.map fun z => W.d (.str z) := by rw [List.map_map]; rfl
  simp only [kJ2, R.bind, readL]
  rw [e, allS_map]
  simp only [if_pos h]
end
/-! lists of data -/
section
variable {xs ys : List PyData} {ws : List W}
theorem d_app : xs.map W.d ++ ys.map W.d = (xs ++ ys).map W.d := (List.map_append ..).symm
theorem d_allD : allD (xs.map W.d ++ ws) = (allD ws).map (xs ++ ·) := by
  induction xs with
  | nil => simp
  | cons x xs ih =>
    rw [List.map_cons, List.cons_append, allD, ih]
    cases allD ws <;> rfl
theorem d_frees : ∀ {ws us : List W}, frees (ws ++ us) = (frees ws && frees us)
  | [], us => by simp [frees]
  | w :: ws, us => by rw [List.cons_append, frees, frees, d_frees, Bool.and_assoc]
theorem d_take {n : Nat} : (xs.map W.d).take n = (xs.take n).map W.d := (List.map_take ..).symm
theorem d_drop {n : Nat} : (xs.map W.d).drop n = (xs.drop n).map W.d := (List.map_drop ..).symm
theorem d_cut {lo hi : Option Int} : cutA (xs.map W.d) lo hi = (cutA xs lo hi).map W.d := by
  unfold cutA
  rw [List.length_map, d_drop, d_take]
theorem d_get {n : Nat} : (xs.map W.d)[n]? = (xs[n]?).map W.d := List.getElem?_map ..
theorem d_set {n : Nat} {x : PyData} : (xs.map W.d).set n (.d x) = (xs.set n x).map W.d := by rw [List.map_set]
theorem d_rep {n : Nat} : (List.replicate n (xs.map W.d)).flatten = ((List.replicate n xs).flatten).map W.d := by
  rw [List.map_flatten, List.map_replicate]
end
section
variable {x : PyData} {n : Nat} {ns : List Int} {ws : List W} {w : W}
theorem z_d : free (.d x) = true := by simp only [free]
theorem z_ref : free (.ref n) = true := by simp only [free]
theorem z_scr : free (.scr ns) = true := by simp only [free]
theorem z_adr {a : Addr} : free (.adr a) = true := by simp only [free]
theorem z_tw : free (.tw ws) = frees ws := by simp only [free]
theorem z_lw : free (.lw ws) = frees ws := by simp only [free]
theorem z_nil : frees [] = true := by simp only [frees]
theorem z_cons : frees (w :: ws) = (free w && frees ws) := by simp only [frees]
theorem z_a0 : allD [] = some [] := (rfl)
theorem z_a1 : allD (.d x :: ws) = (match allD ws with | some ds => some (x :: ds) | none => none) := (rfl)
theorem z_ar : allD (.ref n :: ws) = none := (rfl)
theorem z_at {us : List W} : allD (.tw us :: ws) = none := (rfl)
theorem z_ao : allD (.own n :: ws) = none := (rfl)
theorem z_al {us : List W} : allD (.lw us :: ws) = none := (rfl)
end
def kFz (i : Nat) (p : SF) (s : S) (o : Option Sl) : O := match o with
  | some (.own ws) => p { s with sl := s.sl.set i (.v (mkL ws)) }
  | _ => .no
theorem y_fz {i : Nat} {p : SF} {sl : List Sl} {m : M} : sFz i p ⟨sl, m⟩ = kFz i p ⟨sl, m⟩ (sl[i]?) := by
  unfold sFz kFz
  rfl
theorem y_kFz {i : Nat} {p : SF} {sl : List Sl} {m : M} {ws : List W} : kFz i p ⟨sl, m⟩ (some (.own ws)) = p ⟨sl.set i (.v (mkL ws)), m⟩ := (rfl)
section
variable {s : S} {o l h : EF} {f : LF} {ys xs : List W} {w a : W}
def kS5 (ys : List W) (w : W) (a c : Int) (s : S) (o : Option (List W)) : O := match o with
  | some xs => if ((0 ≤ a ∧ a ≤ c ∧ c ≤ xs.length) ∧ xs.length + ys.length ≤ 1000000) ∧ frees ys = true then (match wrL s w (xs.take a.toNat ++ ys ++ xs.drop c.toNat) with
    | some s' => .nx s'
    | none => .no) else .no
  | none => .no
def kS4 (ys : List W) (w a : W) (r : R S W) : O := bindO r fun b s => match readL s w, a, b with
  | some xs, .d (.int a), .d (.int c) => if ((0 ≤ a ∧ a ≤ c ∧ c ≤ xs.length) ∧ xs.length + ys.length ≤ 1000000) ∧ frees ys = true then (match wrL s w (xs.take a.toNat ++ ys ++ xs.drop c.toNat) with
    | some s' => .nx s'
    | none => .no) else .no
  | _, _, _ => .no
def kS3 (h : EF) (ys : List W) (w : W) (r : R S W) : O := bindO r fun a s => kS4 ys w a (h s)
def kS2 (l h : EF) (ys : List W) (r : R S W) : O := bindO r fun w s => kS3 h ys w (l s)
def kS1 (o l h : EF) (r : R S (List W)) : O := bindO r fun ys s => kS2 l h ys (o s)
theorem y_sSl : sSl o l h f s = kS1 o l h (f s) := (rfl)
theorem y_kS1 : kS1 o l h (.ok ys s) = kS2 l h ys (o s) := (rfl)
theorem y_kS2 : kS2 l h ys (.ok w s) = kS3 h ys w (l s) := (rfl)
theorem y_kS3 : kS3 h ys w (.ok a s) = kS4 ys w a (h s) := (rfl)
theorem y_kS4 {a c : Int} : kS4 ys w (.d (.int a)) (.ok (.d (.int c)) s) = kS5 ys w a c s (readL s w) := by
  simp only [kS4, bindO, kS5]
  cases readL s w <;> rfl
def kS6 (o : Option S) : O := match o with
  | some s' => .nx s'
  | none => .no
theorem y_kS5 {a c : Int} (h1 : 0 ≤ a) (h2 : a ≤ c) (h3 : c ≤ xs.length) (h4 : xs.length + ys.length ≤ 1000000) (h5 : frees ys = true) : kS5 ys w a c s (some xs) = kS6 (wrL s w (xs.take a.toNat ++ ys ++ xs.drop c.toNat)) := by
  simp [kS5, h1, h2, h3, h4, h5]
  rfl
theorem y_kS6 : kS6 (some s) = .nx s := (rfl)
end
/-! texts of one sign, words -/
theorem z_str {x y : Str} (h : x ≠ y) : decide (x = y) = false := decide_eq_false h
theorem w_eq (a b : String) : (Str.ofString a = Str.ofString b) = (a = b) := by
  apply propext
  constructor
  · intro h
    rw [Str.ofString_eq_toList, Str.ofString_eq_toList] at h
    injection h with h
    have h1 : a.toList.map Char.toNat = b.toList.map Char.toNat := by simpa using h
    have h2 : a.toList = b.toList := by
      refine (List.map_inj_right ?_).mp h1
      intro x y hxy
      exact Char.toNat_inj.mp hxy
    exact String.toList_inj.mp h2
  · intro h
    rw [h]
/-! ### comprehensions -/
section
variable {i : Nat} {c : S → R S Bool} {e : EF} {m : M} {sl : List Sl} {it : LF} {s : S} {ws r : List W} {w : W}
def kCp2 (i : Nat) (z : Option Sl) (r : R S (List W)) : R S (List W) := match z with
  | none | some (.own _) => .no
  | some z => match r with
    | .ok r s2 => .ok r { s2 with sl := s2.sl.set i z }
    | _ => .no
def kCp (i : Nat) (c : S → R S Bool) (e : EF) (r : R S (List W)) : R S (List W) := r.bind fun ws s1 => kCp2 i (s1.sl[i]?) (loopC i c e ws { s1 with sl := s1.sl.set i .no })
theorem y_comp : eComp it i c e s = kCp i c e (it s) := by
  unfold eComp kCp
  cases it s with
  | no => rfl
  | er e m => rfl
  | ok ws s1 =>
    simp only [R.bind, kCp2]
    all_goals rcases s1.sl[i]? with _ | z
    all_goals first | rfl | (cases z <;> rfl)
theorem y_kCp : kCp i c e (.ok ws ⟨sl, m⟩) = kCp2 i (sl[i]?) (loopC i c e ws ⟨sl.set i .no, m⟩) := (rfl)
theorem y_kCp2n : kCp2 i (some .no) (.ok r ⟨sl, m⟩) = .ok r ⟨sl.set i .no, m⟩ := (rfl)
theorem y_kCp2v : kCp2 i (some (.v w)) (.ok r ⟨sl, m⟩) = .ok r ⟨sl.set i (.v w), m⟩ := (rfl)
theorem set_no (h : sl[i]? = some .no) : sl.set i .no = sl := by
  apply List.ext_getElem?
  intro j
  by_cases hj : j = i
  · subst hj
    rw [List.getElem?_set_self (List.getElem?_eq_some_iff.mp h).1, h]
  · rw [List.getElem?_set_ne (Ne.symm hj)]
theorem loopC_pure {p : W → Bool} {f : W → W} (hsl : sl[i]? = some .no) : ∀ (ws : List W), (∀ x ∈ ws, c ⟨sl.set i (.v x), m⟩ = .ok (p x) ⟨sl.set i (.v x), m⟩) → (∀ x ∈ ws, p x = true → e ⟨sl.set i (.v x), m⟩ = .ok (f x) ⟨sl.set i (.v x), m⟩ ∧ free (f x) = true) →
    loopC i c e ws ⟨sl, m⟩ = .ok ((ws.filter p).map f) ⟨sl, m⟩
  | [], _, _ => rfl
  | x :: ws, hc, he => by
    have ih := loopC_pure hsl ws (fun y h => hc y (List.mem_cons_of_mem _ h)) (fun y h => he y (List.mem_cons_of_mem _ h))
    simp only [loopC]
    rw [hc x List.mem_cons_self]
    cases hp : p x with
    | false =>
      simp only [List.set_set, set_no hsl]
      rw [ih, List.filter_cons_of_neg (by rw [hp]; exact Bool.false_ne_true)]
    | true =>
      have h2 := he x List.mem_cons_self hp
      simp only [h2.1, h2.2, if_true, List.set_set, set_no hsl]
      rw [ih, List.filter_cons_of_pos hp]
      rfl
end
section
theorem kx_non_int : isK (.none) "int" = false := by decide +kernel
theorem kx_non_bool : isK (.none) "bool" = false := by decide +kernel
theorem kx_non_str : isK (.none) "str" = false := by decide +kernel
theorem kx_non_tuple : isK (.none) "tuple" = false := by decide +kernel
theorem kx_non_list : isK (.none) "list" = false := by decide +kernel
theorem kx_bl_int {b : Bool} : isK (.bool b) "int" = true := (rfl)
theorem kx_bl_bool {b : Bool} : isK (.bool b) "bool" = true := (rfl)
theorem kx_bl_str {b : Bool} : isK (.bool b) "str" = false := (rfl)
theorem kx_bl_tuple {b : Bool} : isK (.bool b) "tuple" = false := (rfl)
theorem kx_bl_list {b : Bool} : isK (.bool b) "list" = false := (rfl)
theorem kx_int_int {b : Int} : isK (.int b) "int" = true := (rfl)
theorem kx_int_bool {b : Int} : isK (.int b) "bool" = false := (rfl)
theorem kx_int_str {b : Int} : isK (.int b) "str" = false := (rfl)
theorem kx_int_tuple {b : Int} : isK (.int b) "tuple" = false := (rfl)
theorem kx_int_list {b : Int} : isK (.int b) "list" = false := (rfl)
theorem kx_str_int {b : Str} : isK (.str b) "int" = false := (rfl)
theorem kx_str_bool {b : Str} : isK (.str b) "bool" = false := (rfl)
theorem kx_str_str {b : Str} : isK (.str b) "str" = true := (rfl)
theorem kx_str_tuple {b : Str} : isK (.str b) "tuple" = false := (rfl)
theorem kx_str_list {b : Str} : isK (.str b) "list" = false := (rfl)
theorem kx_lst_int {b : List PyData} : isK (.list b) "int" = false := (rfl)
theorem kx_lst_bool {b : List PyData} : isK (.list b) "bool" = false := (rfl)
theorem kx_lst_str {b : List PyData} : isK (.list b) "str" = false := (rfl)
theorem kx_lst_tuple {b : List PyData} : isK (.list b) "tuple" = false := (rfl)
theorem kx_lst_list {b : List PyData} : isK (.list b) "list" = true := (rfl)
theorem kx_tup_int {b : List PyData} : isK (.tuple b) "int" = false := (rfl)
theorem kx_tup_bool {b : List PyData} : isK (.tuple b) "bool" = false := (rfl)
theorem kx_tup_str {b : List PyData} : isK (.tuple b) "str" = false := (rfl)
theorem kx_tup_tuple {b : List PyData} : isK (.tuple b) "tuple" = true := (rfl)
theorem kx_tup_list {b : List PyData} : isK (.tuple b) "list" = false := (rfl)
theorem kx_dct_int {b : List (PyData × PyData)} : isK (.dict b) "int" = false := (rfl)
theorem kx_dct_bool {b : List (PyData × PyData)} : isK (.dict b) "bool" = false := (rfl)
theorem kx_dct_str {b : List (PyData × PyData)} : isK (.dict b) "str" = false := (rfl)
theorem kx_dct_tuple {b : List (PyData × PyData)} : isK (.dict b) "tuple" = false := (rfl)
theorem kx_dct_list {b : List (PyData × PyData)} : isK (.dict b) "list" = false := (rfl)
theorem okk_int : okKind "int" = true := by decide +kernel
theorem okk_bool : okKind "bool" = true := by decide +kernel
theorem okk_str : okKind "str" = true := by decide +kernel
theorem okk_tuple : okKind "tuple" = true := by decide +kernel
theorem okk_list : okKind "list" = true := by decide +kernel
end
/-! a text among texts -/
def dS : List PyData → Option (List Str)
  | [] => some []
  | .str z :: r => match dS r with
    | some ss => some (z :: ss)
    | none => none
  | _ => none
section
variable {z w : Str} {r : List PyData} {ss : List Str} {n : Bool} {s : S}
theorem z_S0 : dS [] = some [] := (rfl)
theorem z_S1 : dS (.str z :: r) = (match dS r with | some ss => some (z :: ss) | none => none) := (rfl)
theorem z_Sm : ∀ {ss : List Str}, dS (ss.map .str) = some ss
  | [] => rfl
  | z :: ss => by rw [List.map_cons, z_S1, z_Sm]
theorem dS_eq : ∀ {r : List PyData} {ss : List Str}, dS r = some ss → r = ss.map .str
  | [], _, h => by cases h; rfl
  | .str z :: r, ss, h => by
    rw [z_S1] at h
    cases e : dS r with
    | none => rw [e] at h; cases h
    | some t =>
      rw [e] at h
      cases h
      rw [dS_eq e]
      rfl
  | .none :: _, _, h | .bool _ :: _, _, h | .int _ :: _, _, h | .list _ :: _, _, h | .tuple _ :: _, _, h | .dict _ :: _, _, h => by cases h
def kIn (n : Bool) (w : Str) (r : List PyData) (s : S) (o : Option (List Str)) : R S W := match o with
  | some ss => .ok (.d (.bool (if n = true then !decide (w ∈ ss) else decide (w ∈ ss)))) s
  | none => oIn n (.d (.str w)) (.d (.tuple r)) s
theorem in_strs : oIn n (.d (.str w)) (.d (.tuple (ss.map .str))) s = .ok (.d (.bool (if n = true then !decide (w ∈ ss) else decide (w ∈ ss)))) s := by
  have h1 : (ss.map PyData.str).all flD = true := by
    rw [List.all_eq_true]
    intro x hx
    obtain ⟨t, _, rfl⟩ := List.mem_map.mp hx
    rfl
  have h2 : (ss.map PyData.str).map fV = ss.map V.str := by rw [List.map_map]; rfl
  simp only [oIn, readQ, readT, allD_map, h1, h2, flD, and_self, if_true, fV, inV_strs]
theorem x_in : oIn n (.d (.str w)) (.d (.tuple r)) s = kIn n w r s (dS r) := by
  unfold kIn
  cases e : dS r with
  | none => rfl
  | some ss =>
    rw [dS_eq e]
    exact in_strs
theorem y_kIn : kIn n w r s (some ss) = .ok (.d (.bool (if n = true then !decide (w ∈ ss) else decide (w ∈ ss)))) s := (rfl)
theorem in_strsL : oIn n (.d (.str w)) (.d (.list (ss.map .str))) s = .ok (.d (.bool (if n = true then !decide (w ∈ ss) else decide (w ∈ ss)))) s := by
  have h1 : (ss.map PyData.str).all flD = true := by
    rw [List.all_eq_true]
    intro x hx
    obtain ⟨t, _, rfl⟩ := List.mem_map.mp hx
    rfl
  have h2 : (ss.map PyData.str).map fV = ss.map V.str := by rw [List.map_map]; rfl
  simp only [oIn, readQ, readT, readL, allD_map, h1, h2, flD, and_self, if_true, fV, inV_strs]
end
/-! ### loops -/
theorem loopF_ret {g : GF} {b : SF} (R : W → S → Prop) : ∀ (ws : List W) (P : Nat → S → Prop), (∀ (i : Nat) (hi : i < ws.length) (s : S), P i s → ∃ s1, g ws[i] s = .ok () s1 ∧ ((∃ s2, b s1 = .nx s2 ∧ P (i + 1) s2) ∨ ∃ w s2, b s1 = .rt w s2 ∧ R w s2)) →
    ∀ s, P 0 s → (∃ s', loopF g b ws s = .nx s' ∧ P ws.length s') ∨ ∃ w s', loopF g b ws s = .rt w s' ∧ R w s'
  | [], P, _, s, h0 => .inl ⟨s, rfl, h0⟩
  | x :: ws, P, h, s, h0 => by
    obtain ⟨s1, e1, h1⟩ := h 0 (Nat.zero_lt_succ _) s h0
    rw [y_loop, show g x s = .ok () s1 from e1, y_kL1]
    rcases h1 with ⟨s2, e2, p2⟩ | ⟨w, s2, e2, r2⟩
    · rw [e2, y_kL2n]
      exact loopF_ret R ws (fun i => P (i + 1)) (fun i hi s p => h (i + 1) (Nat.succ_lt_succ hi) s p) s2 p2
    · rw [e2, y_kL2r]
      exact .inr ⟨w, s2, rfl, r2⟩
theorem loopF_inv {g : GF} {b : SF} (ws : List W) (P : Nat → S → Prop) (h : ∀ (i : Nat) (hi : i < ws.length) (s : S), P i s → ∃ s1 s2, g ws[i] s = .ok () s1 ∧ b s1 = .nx s2 ∧ P (i + 1) s2) (s : S) (h0 : P 0 s) : ∃ s', loopF g b ws s = .nx s' ∧ P ws.length s' := by
  rcases loopF_ret (fun _ _ => False) ws P (fun i hi s p => by
    obtain ⟨s1, s2, e1, e2, p2⟩ := h i hi s p
    exact ⟨s1, e1, .inl ⟨s2, e2, p2⟩⟩) s h0 with h | ⟨_, _, _, z⟩
  · exact h
  · exact z.elim
/-! == of data -/
theorem x_eqD {n : Bool} {a b : PyData} {s : S} (h1 : okD a) (h2 : okD b) : oEqD n (.d a) (.d b) s = .ok (.d (.bool (if n = true then !PyData.eqv a b else PyData.eqv a b))) s := by
  have e1 : okDb a = true := Bool.and_eq_true_iff.mpr h1
  have e2 : okDb b = true := Bool.and_eq_true_iff.mpr h2
  simp only [oEqD, toD, e1, e2, and_self, if_true]
theorem eqv_yes {a b : PyData} (h1 : okD a) (h2 : okD b) (h : a = b) : PyData.eqv a b = true := (eqv_iff a b h1.2 h2.2).mpr h
theorem eqv_no {a b : PyData} (h1 : okD a) (h2 : okD b) (h : a ≠ b) : PyData.eqv a b = false := by
  cases e : PyData.eqv a b with
  | false => rfl
  | true => exact absurd ((eqv_iff a b h1.2 h2.2).mp e) h
theorem rng_get {n i : Nat} (h : i < ((List.range n).map fun (i : Nat) => W.d (.int i)).length) : ((List.range n).map fun (i : Nat) => W.d (.int i))[i] = .d (.int i) := by simp
theorem rng2_get {a : Int} {n i : Nat} (h : i < ((List.range n).map fun (k : Nat) => W.d (.int (a + k))).length) : ((List.range n).map fun (k : Nat) => W.d (.int (a + k)))[i] = .d (.int (a + i)) := by simp
/-! unpacking -/
theorem y_gT1 {i : Nat} {a : PyData} : gT (gsCons (gN i) gsNil) 1 (.d (.tuple [a])) ⟨sl, m⟩ = .ok () ⟨sl.set i (.v (.d a)), m⟩ := (rfl)
theorem y_gT2 {i j : Nat} {a b : PyData} : gT (gsCons (gN i) (gsCons (gN j) gsNil)) 2 (.d (.tuple [a, b])) ⟨sl, m⟩ = .ok () ⟨(sl.set i (.v (.d a))).set j (.v (.d b)), m⟩ := (rfl)
theorem y_gT3 {i j k : Nat} {a b c : PyData} : gT (gsCons (gN i) (gsCons (gN j) (gsCons (gN k) gsNil))) 3 (.d (.tuple [a, b, c])) ⟨sl, m⟩ = .ok () ⟨((sl.set i (.v (.d a))).set j (.v (.d b))).set k (.v (.d c)), m⟩ := (rfl)
theorem y_gW2 {i j : Nat} {a b : W} (h : frees [a, b] = true) : gT (gsCons (gN i) (gsCons (gN j) gsNil)) 2 (.tw [a, b]) ⟨sl, m⟩ = .ok () ⟨(sl.set i (.v a)).set j (.v b), m⟩ := by
  have h1 : free a = true ∧ free b = true := by simpa [frees] using h
  simp [gT, readT, h, gsCons, gsNil, gN, h1, R.bind]
end FE

/-! FA: texts cut up, dicts with text keys, parts that are not walked. -/
namespace FE
open PySem PySem.Spec PyProof.Rows L2 KR
section
variable {X : Cx} {K : Fg} {E : XK} {pos apos : Pos} {e o : Expr} {f g h : EF}
/-- a body that is not walked: it promises nothing -/
theorem pss_no {st : List Stmt} : PSs X st (rdS K E sNo) := ⟨fun _ _ _ _ _ _ ⟨_, _, _, _, _, p⟩ => p.elim⟩
def eSplit (f g : EF) (s : S) : R S (List W) := (f s).bind fun a s => match a with
  | .d (.str a) => (g s).bind fun b s => match b with
    | .d (.str b) => if b.length ≠ 0 ∧ a.length ≤ 1000000 then .ok ((Txt.split a b).map fun z => .d (.str z)) s else .no
    | _ => .no
  | _ => .no
theorem f_split (ho : PE X o (rd (kW K) E f)) (he : PE X e (rd (kW K) E g)) (hs : starEach [e] X.env = [(false, eval e X.env)] := by rfl) (hb : attributeBase o "split" X.env (eval o X.env) = eval o X.env := by rfl) (hl : (apos.endLine == pos.line) = true := by rfl) :
    PE X (.Call (.Attribute o "split" apos) [e] [] pos) (rd (kL K) E (eSplit f g)) := imp_te (e_split ho he hs hb hl) fun σ H Q ⟨U, ix, A, s, r, p⟩ => by
  refine ⟨U, ix, A, s, r, Post.bind p fun a s1 x ix1 H1 r1 x1 z1 p1 => ?_⟩
  split at p1
  · rename_i z
    refine ⟨z, WR.str z1, U, ix1, A, s1, r1, Post.bind p1 fun w s2 y ix2 H2 r2 x2 z2 p2 => ?_⟩
    split at p2
    · rename_i b
      split at p2
      · rename_i hc
        exact ⟨b, WR.str z2, by simpa using hc.1, hc.2, p2.newL r2 (strs_wr _)⟩
      · exact p2.elim
    · exact p2.elim
  · exact p1.elim
/-! dicts with text keys -/
def eDict0 (s : S) : R S W := .ok (.ref s.m.length) { s with m := s.m ++ [.dct []] }
theorem f_dict0 : PE X (.Dict [] [] pos) (rd (kW K) E eDict0) := imp_te e_dnew fun σ H Q ⟨U, ix, A, s, r, p⟩ => fun a H2 hn f2 h2 => by
  have rs := r.res hn f2 h2
  have nu : a ∉ U := fun z => by
    obtain ⟨o, q⟩ := (r.un a z).2
    rw [vis_none hn] at q
    cases q
  have rb := rs.box (b := .dct []) nu ⟨[], h2, .nil⟩ ⟨_, h2⟩
  refine p (.ref a) (ix ++ [a]) H2 rb ((Ext.of0 f2).box (vis_none hn)) (.ref ?_)
  rw [← r.mem.len, List.getElem?_append_right (Nat.le_refl _), Nat.sub_self]
  rfl
theorem NRs.val {ix av : List Addr} {H : Hp} {x : Str} : ∀ {vs : List (Key × V)} {ws : List (Str × W)}, NRs K ix av H (Sum.inr : Str → Key) vs ws → (∀ w, ws.lookup x = some w → ∃ v, valV vs (Sum.inr x) = some v ∧ WR K ix [] av H v w) ∧ (ws.lookup x = Option.none → valV vs (Sum.inr x) = Option.none)
  | _, _, .nil => ⟨fun w h => (by cases h), fun _ => rfl⟩
  | _, _, .cons (x := y) (v := v) (w := w') h1 r => by
    by_cases e : y = x
    · subst e
      refine ⟨fun w h => ?_, fun h => ?_⟩
      · simp at h
        subst h
        exact ⟨v, valV_pos rfl, h1⟩
      · simp at h
    · have ne : ¬ (Sum.inr y : Key) = Sum.inr x := fun z => e (by injection z)
      have e' : (x == y) = false := by simpa using fun z => e z.symm
      have ih := NRs.val (x := x) r
      refine ⟨fun w h => ?_, fun h => ?_⟩
      · rw [List.lookup_cons, e'] at h
        rw [valV_neg ne]
        exact ih.1 w h
      · rw [List.lookup_cons, e'] at h
        rw [valV_neg ne]
        exact ih.2 h
def eDGet (f g h : EF) (s : S) : R S W := (f s).bind fun d s => match d with
  | .ref a => match s.m[a]? with
    | some (.dct _) => (g s).bind fun k s => (h s).bind fun w s => match k, s.m[a]? with
      | .d (.str k), some (.dct kvs) => .ok ((kvs.lookup k).getD w) s
      | _, _ => .no
    | _ => .no
  | _ => .no
theorem f_dget {e2 : Expr} {cpos : Pos} (hu : X.A.units + 1 < cLine) (ho : PE X o (rd (kW K) E f)) (he : PE X e (rd (kW K) E g)) (he2 : PE X e2 (rd (kW K) E h)) (m : M2 X o "get" apos e e2 cpos) :
    PE X (.Call (.Attribute o "get" apos) [e, e2] [] cpos) (rd (kW K) E (eDGet f g h)) := imp_te (e_get2 hu ho he he2 m) fun σ H Q ⟨U, ix, A, s, r, p⟩ => by
  refine ⟨U, ix, A, s, r, Post.bind p fun d s1 x ix1 H1 r1 x1 z1 p1 => ?_⟩
  split at p1
  · rename_i a
    split at p1
    · rename_i kvs0 q0
      cases z1 with
      | @ref _ ad hx =>
        obtain ⟨ks0, h1, h2⟩ := r1.mem.box a _ ad q0 hx
        refine ⟨ad, ks0, rfl, h1, U, ix1, A, s1, r1, Post.bind p1 fun k s2 y ix2 H2 r2 x2 z2 p2 => ⟨U, ix2, A, s2, r2, Post.bind p2 fun w s3 z ix3 H3 r3 x3 z3 p3 => ?_⟩⟩
        split at p3
        · rename_i k kvs q3
          obtain ⟨ks, h3, h4⟩ := r3.mem.box a _ ad q3 (x3.pre _ _ (x2.pre _ _ hx))
          have y' := WR.str z2
          have hv := NRs.val (x := k) h4
          refine ⟨ks, k, h3, y', ?_⟩
          cases hl : kvs.lookup k with
          | none =>
            rw [hv.2 hl]
            rw [hl] at p3
            exact p3.done r3 z3
          | some w' =>
            obtain ⟨v, hv1, hv2⟩ := hv.1 w' hl
            rw [hv1]
            rw [hl] at p3
            exact p3.done r3 (WR.lift _ _ hv2)
        · exact p3.elim
    · exact p1.elim
  · exact p1.elim
def putD (k : Str) (v : W) (kvs : List (Str × W)) : List (Str × W) := if (kvs.lookup k).isSome = true then kvs.map (fun kv => if kv.1 = k then (kv.1, v) else kv) else kvs ++ [(k, v)]
theorem NRs.any {ix av : List Addr} {H : Hp} {x : Str} : ∀ {vs : List (Key × V)} {ws : List (Str × W)}, NRs K ix av H (Sum.inr : Str → Key) vs ws → (vs.any fun kv => decide (kv.1 = (Sum.inr x : Key))) = (ws.lookup x).isSome
  | _, _, .nil => rfl
  | _, _, .cons (x := y) h1 r => by
    rw [List.any_cons, NRs.any r]
    by_cases e : y = x
    · subst e
      simp
    · have ne : ¬ (Sum.inr y : Key) = Sum.inr x := fun z => e (by injection z)
      have e' : (x == y) = false := by simpa using fun z => e z.symm
      rw [List.lookup_cons, e']
      simp [ne]
theorem NRs.mapD {ix av : List Addr} {H : Hp} {x : Str} {v : V} {w : W} (hw : WR K ix [] av H v w) : ∀ {vs : List (Key × V)} {ws : List (Str × W)}, NRs K ix av H (Sum.inr : Str → Key) vs ws → NRs K ix av H (Sum.inr : Str → Key) (vs.map fun kv => if kv.1 = (Sum.inr x : Key) then (kv.1, v) else kv) (ws.map fun kv => if kv.1 = x then (kv.1, w) else kv)
  | _, _, .nil => .nil
  | _, _, .cons (x := y) h1 r => by
    rw [List.map_cons, List.map_cons]
    by_cases e : y = x
    · subst e
      rw [if_pos rfl, if_pos rfl]
      exact .cons hw (NRs.mapD hw r)
    · have ne : ¬ (Sum.inr y : Key) = Sum.inr x := fun z => e (by injection z)
      rw [if_neg ne, if_neg e]
      exact .cons h1 (NRs.mapD hw r)
theorem NRs.snoc {ix av : List Addr} {H : Hp} {x : Str} {v : V} {w : W} (hw : WR K ix [] av H v w) : ∀ {vs : List (Key × V)} {ws : List (Str × W)}, NRs K ix av H (Sum.inr : Str → Key) vs ws → NRs K ix av H (Sum.inr : Str → Key) (vs ++ [(Sum.inr x, v)]) (ws ++ [(x, w)])
  | _, _, .nil => .cons hw .nil
  | _, _, .cons h1 r => .cons h1 (NRs.snoc hw r)
theorem NRs.putD {ix av : List Addr} {H : Hp} {x : Str} {v : V} {w : W} (hw : WR K ix [] av H v w) {vs : List (Key × V)} {ws : List (Str × W)} (h : NRs K ix av H (Sum.inr : Str → Key) vs ws) : NRs K ix av H (Sum.inr : Str → Key) (putK vs (Sum.inr x) v) (FE.putD x w ws) := by
  unfold putK FE.putD
  rw [NRs.any (x := x) h]
  split
  · exact NRs.mapD hw h
  · exact NRs.snoc hw h
def sDPut (f g h : EF) (s : S) : O := bindO (h s) fun v s => bindO (f s) fun d s => bindO (g s) fun k s => match d, k with
  | .ref a, .d (.str k) => match s.m[a]? with
    | some (.dct kvs) => if kvs.length < 1000 ∧ free v = true then .nx { s with m := s.m.set a (.dct (putD k v kvs)) } else .no
    | _ => .no
  | _, _ => .no
theorem s_dput' {value : Expr} {pos' : Pos} (hu : X.A.units + 1 < cLine) (ho : PE X o (rd (kW K) E f)) (hi : PE X e (rd (kW K) E g)) (hv : PE X value (rd (kW K) E h)) (hs : swapsWith value (some (.Subscript o e pos')) pos.line X.env = pure false := by rfl) :
    PS X (.Assign [.Subscript o e pos'] value pos) (rdS K E (sDPut f g h)) := imp_ps (s_dput hu ho hi hv hs) fun D σ H ⟨U, ix, A, s, r, p⟩ => by
  refine ⟨U, ix, A, s, r, PostS.bind p fun v s1 y ix1 H1 r1 x1 z1 p1 => ⟨U, ix1, A, s1, r1, PostS.bind p1 fun w s2 x ix2 H2 r2 x2 z2 p2 => ⟨U, ix2, A, s2, r2, PostS.bind p2 fun k s3 z ix3 H3 r3 x3 z3 p3 => ?_⟩⟩⟩
  split at p3
  · rename_i a k
    split at p3
    · rename_i kvs q
      split at p3
      · rename_i hc
        cases z2 with
        | @ref _ ad hx =>
          have hx3 := x3.pre _ _ hx
          obtain ⟨ks, h1, h2⟩ := r3.mem.box a _ ad q hx3
          refine ⟨ad, ks, k, rfl, WR.str z3, h1, by rw [NRs.len h2]; omega, fun H4 f4 h4 => ?_⟩
          have x4 : Ext ix3 A H3 ix3 A H4 := .put (List.mem_append_left _ (List.mem_of_getElem? hx3)) f4
          have q4 := r3.put hx3 f4 (b := .dct (putD k v kvs)) ⟨_, h4, NRs.putD (WR.tr x4.tr _ _ (WR.tr x3.tr _ _ (WR.tr x2.tr _ _ (WR.free _ _ hc.2 z1)))) (NRs.tr x4.tr h2)⟩
          exact p3 _ _ _ _ q4.1 q4.2
      · exact p3.elim
    · exact p3.elim
  · exact p3.elim
def eDIx (f g : EF) (s : S) : R S W := (f s).bind fun d s => (g s).bind fun k s => match d, k with
  | .ref a, .d (.str k) => match s.m[a]? with
    | some (.dct kvs) => match kvs.lookup k with
      | some w => .ok w s
      | none => .no
    | _ => .no
  | _, _ => .no
theorem f_dix (hu : X.A.units + 1 < cLine) (ho : PE X o (rd (kW K) E f)) (hi : PE X e (rd (kW K) E g)) (hs : NoSl e) : PE X (.Subscript o e pos) (rd (kW K) E (eDIx f g)) := imp_te (e_dix hu ho hi hs) fun σ H Q ⟨U, ix, A, s, r, p⟩ => by
  refine ⟨U, ix, A, s, r, Post.bind p fun d s1 x ix1 H1 r1 x1 z1 p1 => ⟨U, ix1, A, s1, r1, Post.bind p1 fun k s2 y ix2 H2 r2 x2 z2 p2 => ?_⟩⟩
  split at p2
  · rename_i a k
    split at p2
    · rename_i kvs q
      split at p2
      · rename_i w hl
        cases z1 with
        | @ref _ ad hx =>
          obtain ⟨ks, h1, h2⟩ := r2.mem.box a _ ad q (x2.pre _ _ hx)
          obtain ⟨v, hv1, hv2⟩ := (NRs.val (x := k) h2).1 w hl
          exact ⟨ad, ks, k, v, rfl, WR.str z2, h1, hv1, p2.done r2 (WR.lift _ _ hv2)⟩
      · exact p2.elim
    · exact p2.elim
  · exact p2.elim
theorem hu1_of {k : Nat} {A : Around} (r : Room k A) : A.units + 1 < cLine := by
  have := r.units
  omega
end
end FE

namespace FE
open PySem PySem.Spec PyProof.Rows L2 KR
section
variable {X : Cx} {K : Fg} {E : XK} {pos apos cpos : Pos} {e o e2 : Expr} {f g h : EF}
def eFind (f : EF) (t : LF) (s : S) : R S W := (f s).bind fun a s => match a with
  | .d (.str a) => (t s).bind fun ws s => match ws with
    | [.d (.str b), .d (.int i)] => .ok (.d (.int (Txt.find3 a b i))) s
    | _ => .no
  | _ => .no
theorem f_find {t : LF} (ho : PE X o (rd (kW K) E f)) (ha : PA X [e, e2] (rd (kA K) E t))
    (hbase : attributeBase o "find" X.env (eval o X.env) = eval o X.env := by rfl)
    (hfew : ((backTo cpos (starEach [e, e2] X.env)).all (fun x => !x.1) && (backToKw cpos (keywordEach [] X.env)).all (fun x => x.1.isSome) && decide ([e, e2].length + ([] : List Keyword).length + (if ([] : List Keyword).isEmpty then 0 else 1) < 30)) = true := by rfl)
    (hline : (apos.endLine == cpos.line) = true := by rfl) (hs : starEach [e, e2] X.env = (false, eval e X.env) :: starEach [e2] X.env := by rfl) (hplain : (backTo cpos (starEach [e2] X.env)).any (·.1) = false := by rfl) :
    PE X (.Call (.Attribute o "find" apos) [e, e2] [] cpos) (rd (kW K) E (eFind f t)) := by
  refine imp_te (pe_bm (T := "str") PySem.F.plainAttrs_str PySem.F.slot_str_find PySem.F.type_str_find mt_find3 ho ha hbase hfew hline hs hplain) fun σ H Q ⟨U, ix, A, s, r, p⟩ => ?_
  refine ⟨U, ix, A, s, r, Post.bind p fun a s1 x ix1 H1 r1 x1 z1 p1 => ?_⟩
  split at p1
  · rename_i z
    rw [WR.str z1]
    refine ⟨by first | trivial | rfl | simp [tyV], U, ix1, A, s1, r1, Post.bind p1 fun ws s2 y ix2 H2 r2 x2 z2 p2 => ?_⟩
    split at p2
    · rename_i b i
      obtain ⟨v, u, rfl, h4, h5⟩ := WRs.two z2
      exact ⟨z, b, i, rfl, by rw [WR.str h4, WR.int h5], p2.done r2 (.mkI _)⟩
    · exact p2.elim
  · exact p1.elim
end
end FE

/-! FX2: objects, dicts, texts: evaluation. -/
namespace FE
open PySem PySem.Spec L2 KR
def look (x : Str) : List (Str × W) → Option W
  | [] => none
  | (y, w) :: r => if y = x then some w else look x r
theorem look_eq {x : Str} : ∀ {fs : List (Str × W)}, fs.lookup x = look x fs
  | [] => rfl
  | (y, w) :: r => by
    rw [List.lookup_cons, look]
    by_cases e : y = x
    · subst e
      simp
    · have e' : (x == y) = false := by simpa using fun z => e z.symm
      rw [e', if_neg e]
      exact look_eq
section
variable {sl : List Sl} {m : M} {s : S} {f g o : EF} {l : LF} {w v : W} {ws : List W} {c x : Str} {fs : List (Str × W)} {a n : Nat} {F : FF}
theorem look_nil : look x [] = none := (rfl)
theorem look_cons {y : Str} : look x ((y, w) :: fs) = if y = x then some w else look x fs := (rfl)
theorem put_nil : putW x v [] = [(x, v)] := (rfl)
theorem put_cons {y : Str} : putW x v ((y, w) :: fs) = if y = x then (y, v) :: fs else (y, w) :: putW x v fs := (rfl)
def kGet3 (s : S) : Option W → R S W
  | some w => .ok w s
  | none => .no
def kGet2 (c x : Str) (s : S) : Option B → R S W
  | some (.ins c' fs) => if c' = c then kGet3 s (look x fs) else .no
  | _ => .no
def kGet (c x : Str) (r : R S W) : R S W := r.bind fun w s => match w with
  | .ref a => kGet2 c x s (s.m[a]?)
  | _ => .no
theorem y_get : eGet c x o s = kGet c x (o s) := by
  unfold eGet kGet
  congr 1
  funext w s
  cases w with
  | ref a =>
    simp only [kGet2]
    cases s.m[a]? with
    | none => rfl
    | some b =>
      cases b with
      | ins c' fs =>
        simp only [look_eq]
        split
        · cases look x fs <;> rfl
        · rfl
      | _ => rfl
  | _ => rfl
theorem y_kGet : kGet c x (.ok (.ref a) ⟨sl, m⟩) = kGet2 c x ⟨sl, m⟩ (m[a]?) := (rfl)
theorem y_kGet2 : kGet2 c x s (some (.ins c fs)) = kGet3 s (look x fs) := by simp [kGet2]
theorem y_kGet3 : kGet3 s (some w) = .ok w s := (rfl)
def kMet4 (n : Nat) (F : FF) (a : Nat) (r : R S (List W)) : R S W := r.bind fun ws s => callF n F (.ref a :: ws) s
def kMet3 (n : Nat) (F : FF) (f : LF) (a : Nat) (s : S) : Option W → R S W
  | none => kMet4 n F a (f s)
  | some _ => .no
def kMet2 (c x : Str) (n : Nat) (F : FF) (f : LF) (a : Nat) (s : S) : Option B → R S W
  | some (.ins c' fs) => if c' = c then kMet3 n F f a s (look x fs) else .no
  | _ => .no
def kMet (c x : Str) (n : Nat) (F : FF) (f : LF) (r : R S W) : R S W := r.bind fun w s => match w with
  | .ref a => kMet2 c x n F f a s (s.m[a]?)
  | _ => .no
theorem y_met : eMet c x n F o l s = kMet c x n F l (o s) := by
  unfold eMet kMet
  congr 1
  funext w s
  cases w with
  | ref a =>
    simp only [kMet2]
    cases s.m[a]? with
    | none => rfl
    | some b =>
      cases b with
      | ins c' fs =>
        simp only [look_eq]
        by_cases e : c' = c
        · simp only [e, true_and, if_true]
          cases look x fs with
          | none => simp [kMet3, kMet4]
          | some _ => simp [kMet3]
        · simp [e]
      | _ => rfl
  | _ => rfl
theorem y_kMet : kMet c x n F l (.ok (.ref a) ⟨sl, m⟩) = kMet2 c x n F l a ⟨sl, m⟩ (m[a]?) := (rfl)
theorem y_kMet2 : kMet2 c x n F l a s (some (.ins c fs)) = kMet3 n F l a s (look x fs) := by simp [kMet2]
theorem y_kMet3 : kMet3 n F l a s none = kMet4 n F a (l s) := (rfl)
theorem y_kMet4 : kMet4 n F a (.ok ws s) = kCall n F (.ok (.ref a :: ws) s) := (rfl)
def kMk2 (sl : List Sl) (a : Nat) (r : R M W) : R S W := match r with
  | .ok (.d .none) m => .ok (.ref a) ⟨sl, m⟩
  | .er e m => .er e m
  | _ => .no
def kMak (c : Str) (n : Nat) (F : FF) (r : R S (List W)) : R S W := r.bind fun ws s => if ws.length + 1 = n ∧ frees ws = true then kMk2 s.sl s.m.length (F (.ref s.m.length :: ws) (s.m ++ [.ins c []])) else .no
theorem y_mak : eMak c n F l s = kMak c n F (l s) := by
  unfold eMak kMak
  congr 1
theorem y_kMak (h : ws.length + 1 = n) (h2 : frees ws = true) : kMak c n F (.ok ws ⟨sl, m⟩) = kMk2 sl m.length (F (.ref m.length :: ws) (m ++ [.ins c []])) := by simp [kMak, R.bind, h, h2]
theorem y_kMk2 : kMk2 sl a (.ok (.d .none) m) = .ok (.ref a) ⟨sl, m⟩ := (rfl)
def kFl3 (c x : Str) (v : W) (a : Nat) (s : S) : Option B → O
  | some (.ins c' fs) => if c' = c ∧ fs.length < 1000 ∧ free v = true then .nx { s with m := s.m.set a (.ins c (putW x v fs)) } else .no
  | _ => .no
def kFl2 (c x : Str) (v : W) (r : R S W) : O := bindO r fun w s => match w with
  | .ref a => kFl3 c x v a s (s.m[a]?)
  | _ => .no
def kFl1 (c x : Str) (o : EF) (r : R S W) : O := bindO r fun v s => kFl2 c x v (o s)
theorem y_fld : sFld c x o f s = kFl1 c x o (f s) := by
  unfold sFld kFl1 kFl2
  congr 1
theorem y_kFl1 : kFl1 c x o (.ok v s) = kFl2 c x v (o s) := (rfl)
theorem y_kFl2 : kFl2 c x v (.ok (.ref a) ⟨sl, m⟩) = kFl3 c x v a ⟨sl, m⟩ (m[a]?) := (rfl)
theorem y_kFl3 (h : fs.length < 1000) (h2 : free v = true) : kFl3 c x v a ⟨sl, m⟩ (some (.ins c fs)) = .nx ⟨sl, m.set a (.ins c (putW x v fs))⟩ := by simp [kFl3, h, h2]
theorem y_dict0 : eDict0 ⟨sl, m⟩ = .ok (.ref m.length) ⟨sl, m ++ [.dct []]⟩ := (rfl)
/-! the heap's list -/
theorem m_at {l : M} {k : Nat} : (m ++ l)[m.length + k]? = l[k]? := by rw [List.getElem?_append_right (by omega)]; congr 1; omega
theorem m_at0 {l : M} : (m ++ l)[m.length]? = l[0]? := by rw [List.getElem?_append_right (by omega)]; congr 1; omega
theorem m_set {l : M} {k : Nat} {b : B} : (m ++ l).set (m.length + k) b = m ++ l.set k b := by rw [List.set_append_right _ _ (by omega)]; congr 2; omega
theorem m_set0 {l : M} {b : B} : (m ++ l).set m.length b = m ++ l.set 0 b := by rw [List.set_append_right _ _ (by omega)]; congr 2; omega
end
end FE

/-! FX3: dicts and cut texts: evaluation. -/
namespace FE
open PySem PySem.Spec L2 KR
section
variable {sl : List Sl} {m : M} {s : S} {f g h o : EF} {l : LF} {w v : W} {kvs : List (Str × W)} {a : Nat} {k : Str}
def kDG5 (k : Str) (w : W) (s : S) : Option B → R S W
  | some (.dct kvs) => .ok ((look k kvs).getD w) s
  | _ => .no
def kDG4 (a : Nat) (k : W) (r : R S W) : R S W := r.bind fun w s => match k with
  | .d (.str k) => kDG5 k w s (s.m[a]?)
  | _ => .no
def kDG3 (h : EF) (a : Nat) (r : R S W) : R S W := r.bind fun k s => kDG4 a k (h s)
def kDG2 (g h : EF) (a : Nat) (s : S) : Option B → R S W
  | some (.dct _) => kDG3 h a (g s)
  | _ => .no
def kDG1 (g h : EF) (r : R S W) : R S W := r.bind fun d s => match d with
  | .ref a => kDG2 g h a s (s.m[a]?)
  | _ => .no
theorem y_dget : eDGet f g h s = kDG1 g h (f s) := by
  unfold eDGet kDG1
  congr 1
  funext d s
  cases d with
  | ref a =>
    simp only [kDG2]
    cases s.m[a]? with
    | none => rfl
    | some b =>
      cases b with
      | dct kvs0 =>
        simp only [kDG3]
        congr 1
        funext k s
        simp only [kDG4]
        congr 1
        funext w s
        cases k with
        | d x =>
          cases x with
          | str k =>
            simp only [kDG5]
            cases s.m[a]? with
            | none => rfl
            | some b => cases b with
              | dct kvs => simp only [look_eq]
              | _ => rfl
          | _ => rfl
        | _ => rfl
      | _ => rfl
  | _ => rfl
theorem y_kDG1 : kDG1 g h (.ok (.ref a) ⟨sl, m⟩) = kDG2 g h a ⟨sl, m⟩ (m[a]?) := (rfl)
theorem y_kDG2 : kDG2 g h a s (some (.dct kvs)) = kDG3 h a (g s) := (rfl)
theorem y_kDG3 : kDG3 h a (.ok w s) = kDG4 a w (h s) := (rfl)
theorem y_kDG4 : kDG4 a (.d (.str k)) (.ok w ⟨sl, m⟩) = kDG5 k w ⟨sl, m⟩ (m[a]?) := (rfl)
theorem y_kDG5 : kDG5 k w s (some (.dct kvs)) = .ok ((look k kvs).getD w) s := (rfl)
theorem getD_some : (some v).getD w = v := (rfl)
theorem getD_none : (Option.none : Option W).getD w = w := (rfl)
def kDP4 (v : W) (a : Nat) (k : Str) (s : S) : Option B → O
  | some (.dct kvs) => if kvs.length < 1000 ∧ free v = true then .nx { s with m := s.m.set a (.dct (putD k v kvs)) } else .no
  | _ => .no
def kDP3 (v d : W) (r : R S W) : O := bindO r fun k s => match d, k with
  | .ref a, .d (.str k) => kDP4 v a k s (s.m[a]?)
  | _, _ => .no
def kDP2 (g : EF) (v : W) (r : R S W) : O := bindO r fun d s => kDP3 v d (g s)
def kDP1 (f g : EF) (r : R S W) : O := bindO r fun v s => kDP2 g v (f s)
theorem y_dput : sDPut f g h s = kDP1 f g (h s) := by
  unfold sDPut kDP1 kDP2 kDP3
  congr 1
theorem y_kDP1 : kDP1 f g (.ok v s) = kDP2 g v (f s) := (rfl)
theorem y_kDP2 : kDP2 g v (.ok w s) = kDP3 v w (g s) := (rfl)
theorem y_kDP3 : kDP3 v (.ref a) (.ok (.d (.str k)) ⟨sl, m⟩) = kDP4 v a k ⟨sl, m⟩ (m[a]?) := (rfl)
theorem y_kDP4 (h : kvs.length < 1000) (h2 : free v = true) : kDP4 v a k ⟨sl, m⟩ (some (.dct kvs)) = .nx ⟨sl, m.set a (.dct (putD k v kvs))⟩ := by simp [kDP4, h, h2]
def kSp2 (z : Str) (r : R S W) : R S (List W) := r.bind fun b s => match b with
  | .d (.str b) => if b.length ≠ 0 ∧ z.length ≤ 1000000 then .ok ((Txt.split z b).map fun z => .d (.str z)) s else .no
  | _ => .no
def kSp1 (g : EF) (r : R S W) : R S (List W) := r.bind fun a s => match a with
  | .d (.str z) => kSp2 z (g s)
  | _ => .no
theorem y_split : eSplit f g s = kSp1 g (f s) := (rfl)
theorem y_kSp1 : kSp1 g (.ok (.d (.str k)) s) = kSp2 k (g s) := (rfl)
theorem y_kSp2 {z b : Str} (h1 : b.length ≠ 0) (h2 : z.length ≤ 1000000) : kSp2 z (.ok (.d (.str b)) s) = .ok ((Txt.split z b).map fun z => .d (.str z)) s := by simp [kSp2, R.bind, h1, h2]
end
end FE

/-! FB: dicts told at once, a list's place of data, > of pairs, one or the other. -/
namespace FE
open PySem PySem.Spec PyProof.Rows L2 KR
/-! one or the other -/
def orB (f g : List W → S → R S W) (ws : List W) (s : S) : R S W := match f ws s with
  | .no => g ws s
  | r => r
def orO (f g : W → W → S → R S W) (a b : W) (s : S) : R S W := match f a b s with
  | .no => g a b s
  | r => r
section
variable {X : Cx} {K : Fg} {E : XK}
theorem b_or {f : Value} {g h : List W → S → R S W} (h1 : CallR X f (rdC (kW K) E g)) (h2 : CallR X f (rdC (kW K) E h)) : CallR X f (rdC (kW K) E (orB g h)) := fun pins s σ H xs us Q I v ⟨U, ix, A, σ', s', ws, r, wa, p⟩ => by
  unfold orB at p
  split at p
  · exact h2 pins s σ H xs us Q I v ⟨U, ix, A, σ', s', ws, r, wa, p⟩
  · exact h1 pins s σ H xs us Q I v ⟨U, ix, A, σ', s', ws, r, wa, p⟩
theorem i_or {f g : W → W → S → R S W} (h1 : IxR X (rdO (kW K) E f)) (h2 : IxR X (rdO (kW K) E g)) : IxR X (rdO (kW K) E (orO f g)) := fun value slice pins s σ H x y v u Q I rx ry ⟨U, ix, A, σ', s', a, b, r, wa, wb, p⟩ hs => by
  unfold orO at p
  split at p
  · exact h2 value slice pins s σ H x y v u Q I rx ry ⟨U, ix, A, σ', s', a, b, r, wa, wb, p⟩ hs
  · exact h1 value slice pins s σ H x y v u Q I rx ry ⟨U, ix, A, σ', s', a, b, r, wa, wb, p⟩ hs
theorem op_or {o : Value → Value → Sem Value} {f g : W → W → S → R S W} (h1 : OpR X o (rdO (kW K) E f)) (h2 : OpR X o (rdO (kW K) E g)) : OpR X o (rdO (kW K) E (orO f g)) := fun pins s σ H x y v u Q I rx ry ⟨U, ix, A, σ', s', a, b, r, wa, wb, p⟩ => by
  unfold orO at p
  split at p
  · exact h2 pins s σ H x y v u Q I rx ry ⟨U, ix, A, σ', s', a, b, r, wa, wb, p⟩
  · exact h1 pins s σ H x y v u Q I rx ry ⟨U, ix, A, σ', s', a, b, r, wa, wb, p⟩
end
/-! dicts told at once -/
inductive PRs (K : Fg) (ix : List Addr) (A : List (Option Addr)) (av : List Addr) (H : Hp) : List (V × V) → List (Str × W) → Prop
  | nil : PRs K ix A av H [] []
  | cons {x : Str} {v : V} {w : W} {vs : List (V × V)} {ws : List (Str × W)} : WR K ix A av H v w → PRs K ix A av H vs ws → PRs K ix A av H ((.str x, v) :: vs) ((x, w) :: ws)
def kD (K : Fg) : Kind K (List (Str × W)) (List (V × V)) := ⟨fun U A _ _ ix H _ v w => PRs K ix A (avo U ix A) H v w, fun _ _ h => h⟩
abbrev DF := S → R S (List (Str × W))
def dNil (s : S) : R S (List (Str × W)) := .ok [] s
def dCons (x : Str) (f : EF) (g : DF) (s : S) : R S (List (Str × W)) := (f s).bind fun a s => (g s).bind fun r s => .ok ((x, a) :: r) s
def mergeD (more : List (Str × W)) : List (Str × W) := more.foldl (fun acc kv => putD kv.1 kv.2 acc) []
def eDict (g : DF) (s : S) : R S W := match g { s with m := s.m ++ [.dct []] } with
  | .no => .no
  | .er e m => .er e m
  | .ok kvs s2 => match s2.m[s.m.length]? with
    | some (.dct []) => if kvs.length ≤ 15 ∧ (kvs.all fun kv => free kv.2) = true then .ok (.ref s.m.length) { s2 with m := s2.m.set s.m.length (.dct (mergeD kvs)) } else .no
    | _ => .no
section
variable {X : Cx} {K : Fg} {E : XK} {pos : Pos} {f : EF} {g : DF}
def PDs (X : Cx) (K : Fg) (E : XK) (pos : Pos) (keys : List (Option Expr)) (values : List Expr) (g : DF) : Prop := ∃ trs, PPs X pos keys values trs ∧ ∀ σ H Q, rd (kD K) E g σ H Q → tPairs trs σ H Q
theorem f_dnil : PDs X K E pos [] [] dNil := ⟨[], pps_nil, fun σ H Q ⟨U, ix, A, s, r, p⟩ => p.done r .nil⟩
theorem f_dcons {k : Str} {j} {p1 : Pos} {v : Expr} {ks : List (Option Expr)} {vs : List Expr} (hv : PE X v (rd (kW K) E f)) (hr : PDs X K E pos ks vs g) : PDs X K E pos (some (.Constant (.str k) j p1) :: ks) (v :: vs) (dCons k f g) := by
  obtain ⟨trs, h1, h2⟩ := hr
  refine ⟨(tC (.str k), rd (kW K) E f) :: trs, pps_cons pe_str hv h1, fun σ H Q ⟨U, ix, A, s, r, p⟩ => ?_⟩
  show rd (kW K) E f σ H _
  exact ⟨U, ix, A, s, r, Post.bind p fun a s1 x ix1 H1 r1 x1 z1 p1 => h2 _ _ _ ⟨U, ix1, A, s1, r1, Post.bind p1 fun ws s2 ps ix2 H2 r2 x2 z2 p2 => p2.done r2 (.cons (WR.tr x2.tr _ _ z1) z2)⟩⟩
theorem PRs.free {ix : List Addr} {A : List (Option Addr)} {av : List Addr} {H : Hp} : ∀ {ps : List (V × V)} {kvs : List (Str × W)}, PRs K ix A av H ps kvs → (kvs.all fun kv => free kv.2) = true → ∃ ks : List (Key × V), ps = ks.map (fun kv => (kV kv.1, kv.2)) ∧ ks.length = kvs.length ∧ NRs K ix av H (Sum.inr : Str → Key) ks kvs
  | _, _, .nil, _ => ⟨[], rfl, rfl, .nil⟩
  | _, _, .cons (x := x) (v := v) h r, hf => by
    have hf' := Bool.and_eq_true_iff.mp hf
    obtain ⟨ks, e, l, n⟩ := PRs.free r hf'.2
    exact ⟨(Sum.inr x, v) :: ks, by rw [e]; rfl, by rw [List.length_cons, List.length_cons, l], .cons (WR.free _ _ hf'.1 h) n⟩
theorem NRs.mergeD {ix av : List Addr} {H : Hp} : ∀ {ks : List (Key × V)} {kvs : List (Str × W)} {as : List (Key × V)} {bs : List (Str × W)}, NRs K ix av H (Sum.inr : Str → Key) ks kvs → NRs K ix av H (Sum.inr : Str → Key) as bs →
    NRs K ix av H (Sum.inr : Str → Key) (mergeK as ks) (kvs.foldl (fun acc kv => FE.putD kv.1 kv.2 acc) bs)
  | _, _, _, _, .nil, q => q
  | _, _, _, _, .cons (x := x) h r, q => by
    have := NRs.mergeD r (NRs.putD (x := x) h q)
    exact this
theorem f_dict {keys : List (Option Expr)} {values : List Expr} (h : PDs X K E pos keys values g) (hall : keys.all (·.isSome) = true := by rfl) (hl : keys.length = values.length := by rfl) (h0 : keys ≠ [] := by exact List.cons_ne_nil _ _)
    (h15 : keys.length ≤ 15 := by decide) : PE X (.Dict keys values pos) (rd (kW K) E (eDict g)) := by
  obtain ⟨trs, h1, h2⟩ := h
  refine imp_te (pe_disp h1 hall hl h0 h15) fun σ H Q ⟨U, ix, A, s, r, p⟩ => fun a hn => ?_
  have f2 : Fr [] H (upd H a (.dK [])) := .new hn
  have rs := r.res hn f2 upd_same
  have nu : a ∉ U := fun z => by
    obtain ⟨o, q⟩ := (r.un a z).2
    rw [vis_none hn] at q
    cases q
  have rb := rs.box (b := .dct []) nu ⟨[], upd_same, .nil⟩ ⟨_, upd_same⟩
  have x0 : Ext ix A H (ix ++ [a]) A (upd H a (.dK [])) := (Ext.of0 f2).box (vis_none hn)
  have hga : (ix ++ [a])[s.m.length]? = some a := by
    rw [← r.mem.len, List.getElem?_append_right (Nat.le_refl _), Nat.sub_self]
    rfl
  refine h2 _ _ _ ⟨U, ix ++ [a], A, _, rb, ?_⟩
  unfold eDict at p
  revert p
  cases g { s with m := s.m ++ [.dct []] } with
  | no => exact fun p => p
  | er e m => exact fun p => PostE.mono x0 p
  | ok kvs s2 =>
    intro p ps ix2 H2 r2 x2 z2
    simp only at p
    split at p
    · rename_i q
      split at p
      · rename_i hc
        have hga2 := x2.pre _ _ hga
        obtain ⟨ks0, e1, e2⟩ := r2.mem.box _ _ a q hga2
        cases e2
        obtain ⟨ks, e3, l3, n3⟩ := PRs.free z2 hc.2
        refine ⟨e1, ks, e3, by rw [l3]; exact hc.1, ?_⟩
        have fp : Fr [a] H2 (upd H2 a (.dK (mergeK [] ks))) := .put (by simp) e1 trivial
        have x4 : Ext ix2 A H2 ix2 A (upd H2 a (.dK (mergeK [] ks))) := .put (List.mem_append_left _ (List.mem_of_getElem? hga2)) fp
        have q4 := r2.put hga2 fp (b := .dct (FE.mergeD kvs)) ⟨_, upd_same, NRs.mergeD (NRs.tr x4.tr n3) .nil⟩
        exact p (.ref a) ix2 _ q4.1 ((x0.trans x2).trans q4.2) (.ref hga2)
      · exact p.elim
    · exact p.elim
/-! a list's place of data -/
def mIndexD (w : W) (as : List W) (s : S) : R S W := match toD s w, as with
  | some (.list ds), [x] => match toD s x with
    | some d => if okDb (.list ds) = true ∧ okDb d = true then (match ds.findIdx? (fun z => PyData.eqv z d) with
      | some j => .ok (.d (.int (j : Nat))) s
      | none => .no) else .no
    | none => .no
  | _, _ => .no
theorem mt_imp' {id : String} {r r' : V → List V → Hp → VK → Prop} (h : MtR X id r) (hi : ∀ x xs H Q, r' x xs H Q → r x xs H Q) : MtR X id r' := fun pins s σ H x xs v us Q I a b q => h pins s σ H x xs v us Q I a b (hi _ _ _ _ q)
theorem m_IndexD (hu : X.A.units + 65 < cLine) (hK : X.K = K := by rfl) : MtR X "list.index" (rdM (kW K) E mIndexD) := by
  subst hK
  refine mt_imp' (mt_indexD hu) fun x vs H Q ⟨U, ix, A, σ, s, w, ws, r, wa, wb, p⟩ => ?_
  unfold mIndexD at p
  split at p
  · rename_i ds y h1
    split at p
    · rename_i d h2
      split at p
      · rename_i hc
        split at p
        · rename_i j hj
          obtain ⟨v, rfl, h4⟩ := WRs.one wb
          have c1 := Bool.and_eq_true_iff.mp hc.1
          have c2 := Bool.and_eq_true_iff.mp hc.2
          have q1 := toD_ok r wa h1
          have q2 := toD_ok r h4 h2
          obtain ⟨hlt, hp, hno⟩ := List.findIdx?_eq_some_iff_getElem.mp hj
          cases q1 with
          | lst ha hb =>
            refine ⟨_, v, d, ds, j, ds[j], rfl, rfl, .lst ha hb, q2, c1.1, c2.1, List.getElem?_eq_getElem hlt, hp, fun m z' hm hz => ?_, p.done r (.mkI _)⟩
            obtain ⟨hml, rfl⟩ := List.getElem?_eq_some_iff.mp hz
            exact Bool.not_eq_true _ |>.mp (hno m hm)
        · exact p.elim
      · exact p.elim
    · exact p.elim
  · exact p.elim
/-! > of pairs of numbers -/
def gtP (a b c d : Int) : Bool := if a = c then decide (d < b) else decide (c < a)
def uGtP (K : Fg) : R2 := fun x y H Q => ∃ (l m : Addr) (a b c d : Int), x = .ref l ∧ y = .ref m ∧ SqT K H l [.int a, .int b] ∧ SqT K H m [.int c, .int d] ∧ Q (.bl (gtP a b c d)) H
theorem op_gtP (hu : X.A.units < cLine) : OpR X (compareOp .Gt) (uGtP X.K) := fun pins s σ H x y v u Q I rx ry ⟨l, m, a, b, c, d, ex, ey, h1, h2, q⟩ => by
  subst ex
  subst ey
  cases rx
  cases ry
  obtain ⟨js, v1, t1, _⟩ := I.tuple h1
  obtain ⟨ks, v2, t2, _⟩ := I.tuple h2
  have two : ∀ {zs : List Value} {i j : Int}, Vals [.int i, .int j] zs → ∃ k k', zs = [.int i k, .int j k'] := fun {zs i j} hv => by
    cases hv with
    | cons e1 hv =>
      cases hv with
      | cons e2 hv =>
        cases hv
        obtain ⟨k, rfl⟩ := e1
        obtain ⟨k', rfl⟩ := e2
        exact ⟨k, k', rfl⟩
  obtain ⟨k1, k2, rfl⟩ := two v1
  obtain ⟨k3, k4, rfl⟩ := two v2
  have ee : ∀ (A : Around) (i j : Int) (k k' : Tok), SeqAt.EqAt A s (.int i k) (.int j k') (decide (i = j)) := fun A i j k k' => by
    rw [show decide (i = j) = (i == j) from (Bool.beq_eq_decide_eq i j).symm]
    exact SeqAt.EqAt.int_int _ _ _ _
  have R := Ob.RcOp.tuples_gt (A := X.A) (s := s) (e := fun n => if n = 0 then decide (a = c) else decide (b = d)) (r := fun n => if n = 0 then decide (c < a) else decide (d < b)) t1 t2 hu (fun n g1 g2 => by
    match n, g1, g2 with
    | 0, _, _ => exact ee _ a c k1 k3
    | 1, _, _ => exact ee _ b d k2 k4) (fun n g1 g2 _ => by
    match n, g1, g2 with
    | 0, _, _ => exact Ob.RcOp.gt_int a c k1 k3
    | 1, _, _ => exact Ob.RcOp.gt_int b d k2 k4)
  refine R X.prog X.w X.xe (EP X pins σ Q) ⟨.bl _, H, I, rfl, ?_⟩
  have : Ob.lexAt (fun n => if n = 0 then decide (a = c) else decide (b = d)) (fun n => if n = 0 then decide (c < a) else decide (d < b)) false 0 2 = gtP a b c d := by
    unfold gtP
    by_cases h : a = c
    · by_cases h' : b = d
      · simp [Ob.lexAt, h, h']
      · simp [Ob.lexAt, h, h']
    · simp [Ob.lexAt, h]
  exact this ▸ q
def oGtT (a b : W) (s : S) : R S W := match a, b with
  | .d (.tuple [.int i, .int j]), .d (.tuple [.int k, .int l]) => .ok (.d (.bool (gtP i j k l))) s
  | _, _ => .no
theorem o_GtT (hu : X.A.units < cLine) (hK : X.K = K := by rfl) : OpR X (compareOp .Gt) (rdO (kW K) E oGtT) := by
  subst hK
  refine op_imp (op_gtP hu) fun x y H Q ⟨U, ix, A, σ, s, a, b, r, wa, wb, p⟩ => ?_
  unfold oGtT at p
  split at p
  · have two : ∀ {v : V} {i j : Int}, WR X.K ix A (avo U ix A) H v (.d (.tuple [.int i, .int j])) → ∃ l, v = .ref l ∧ SqT X.K H l [.int i, .int j] := fun {v i j} h => by
      cases h with
      | d h =>
        cases h with
        | tup h1 h2 =>
          cases h2 with
          | cons e1 h2 =>
            cases h2 with
            | cons e2 h2 =>
              cases h2
              cases e1
              cases e2
              exact ⟨_, rfl, h1⟩
    obtain ⟨l, rfl, h1⟩ := two wa
    obtain ⟨m, rfl, h2⟩ := two wb
    exact ⟨l, m, _, _, _, _, rfl, rfl, h1, h2, p.done r (.mkB _)⟩
  · exact p.elim
theorem hu65_of {k : Nat} {A : Around} (r : Room k A) : A.units + 65 < cLine := by
  have := r.un
  omega
end
end FE

/-! FX4: evaluation of what FB brings. -/
namespace FE
open PySem PySem.Spec L2 KR
section
variable {sl : List Sl} {m : M} {s : S} {f g h o : EF} {l : LF} {w v : W} {ws : List W} {kvs : List (Str × W)} {a : Nat} {k : Str}
def kI5 (s : S) : Option W → R S W
  | some w => .ok w s
  | none => .no
def kI4 (k : Str) (s : S) : Option B → R S W
  | some (.dct kvs) => kI5 s (look k kvs)
  | _ => .no
def kI3 (d : W) (r : R S W) : R S W := r.bind fun k s => match d, k with
  | .ref a, .d (.str k) => kI4 k s (s.m[a]?)
  | _, _ => .no
def kI1 (g : EF) (r : R S W) : R S W := r.bind fun d s => kI3 d (g s)
theorem y_dix : eDIx f g s = kI1 g (f s) := by
  unfold eDIx kI1 kI3
  congr 1
  funext d s
  congr 1
  funext k s
  cases d with
  | ref a =>
    cases k with
    | d x =>
      cases x with
      | str k =>
        simp only [kI4]
        cases s.m[a]? with
        | none => rfl
        | some b => cases b with
          | dct kvs =>
            simp only [look_eq]
            cases look k kvs <;> rfl
          | _ => rfl
      | _ => rfl
    | _ => rfl
  | _ => rfl
theorem y_kI1 : kI1 g (.ok w s) = kI3 w (g s) := (rfl)
theorem y_kI3 : kI3 (.ref a) (.ok (.d (.str k)) ⟨sl, m⟩) = kI4 k ⟨sl, m⟩ (m[a]?) := (rfl)
theorem y_kI4 : kI4 k s (some (.dct kvs)) = kI5 s (look k kvs) := (rfl)
theorem y_kI5 : kI5 s (some w) = .ok w s := (rfl)
/-! dicts told at once -/
def kD1 (x : Str) (g : DF) (r : R S W) : R S (List (Str × W)) := r.bind fun a s => (g s).bind fun r s => .ok ((x, a) :: r) s
def kD2 (x : Str) (a : W) (r : R S (List (Str × W))) : R S (List (Str × W)) := r.bind fun r s => .ok ((x, a) :: r) s
theorem y_dnil : dNil s = .ok [] s := (rfl)
theorem y_dcons {x : Str} {g : DF} : dCons x f g s = kD1 x g (f s) := (rfl)
theorem y_kD1 {x : Str} {g : DF} : kD1 x g (.ok w s) = kD2 x w (g s) := (rfl)
theorem y_kD2 {x : Str} : kD2 x w (.ok kvs s) = .ok ((x, w) :: kvs) s := (rfl)
def kD4 (a : Nat) (kvs : List (Str × W)) (s : S) : Option B → R S W
  | some (.dct []) => if kvs.length ≤ 15 ∧ (kvs.all fun kv => free kv.2) = true then .ok (.ref a) { s with m := s.m.set a (.dct (mergeD kvs)) } else .no
  | _ => .no
def kD3 (a : Nat) (r : R S (List (Str × W))) : R S W := match r with
  | .no => .no
  | .er e m => .er e m
  | .ok kvs s => kD4 a kvs s (s.m[a]?)
theorem y_dict {g : DF} : eDict g ⟨sl, m⟩ = kD3 m.length (g ⟨sl, m ++ [.dct []]⟩) := by
  unfold eDict kD3
  simp only
  cases g ⟨sl, m ++ [.dct []]⟩ with
  | ok kvs s2 =>
    unfold kD4
    cases s2.m[m.length]? with
    | none => rfl
    | some b => cases b with
      | dct l => cases l <;> rfl
      | _ => rfl
  | no => rfl
  | er e m => rfl
theorem y_kD3 : kD3 a (.ok kvs ⟨sl, m⟩) = kD4 a kvs ⟨sl, m⟩ (m[a]?) := (rfl)
theorem y_kD4 (h1 : kvs.length ≤ 15) (h2 : (kvs.all fun kv => free kv.2) = true) : kD4 a kvs ⟨sl, m⟩ (some (.dct [])) = .ok (.ref a) ⟨sl, m.set a (.dct (mergeD kvs))⟩ := by simp [kD4, h1, h2]
/-! one or the other -/
def kBo (g : List W → S → R S W) (ws : List W) (s : S) (r : R S W) : R S W := match r with
  | .no => g ws s
  | r => r
theorem y_orB {f g : List W → S → R S W} : orB f g ws s = kBo g ws s (f ws s) := by
  unfold orB kBo
  cases f ws s <;> rfl
theorem y_kBoN {g : List W → S → R S W} : kBo g ws s .no = g ws s := (rfl)
theorem y_kBoY {g : List W → S → R S W} {s' : S} : kBo g ws s (.ok w s') = .ok w s' := (rfl)
def kOo (g : W → W → S → R S W) (a b : W) (s : S) (r : R S W) : R S W := match r with
  | .no => g a b s
  | r => r
theorem y_orO {f g : W → W → S → R S W} {a b : W} : orO f g a b s = kOo g a b s (f a b s) := by
  unfold orO kOo
  cases f a b s <;> rfl
theorem y_kOoN {g : W → W → S → R S W} {a b : W} : kOo g a b s .no = g a b s := (rfl)
theorem y_kOoY {g : W → W → S → R S W} {a b : W} {s' : S} : kOo g a b s (.ok w s') = .ok w s' := (rfl)
theorem x_gtT {i j k l : Int} : oGtT (.d (.tuple [.int i, .int j])) (.d (.tuple [.int k, .int l])) s = .ok (.d (.bool (gtP i j k l))) s := (rfl)
def kIs2 (x y : String) (r : R S W) : R S W := r.bind fun w s => match kindW s w with
  | some k => if okKind x = true ∧ okKind y = true then .ok (.d (.bool (isB k x || isB k y))) s else .no
  | none => .no
theorem y_isi2 {x y : String} : eIsi2 f x y s = kIs2 x y (f s) := (rfl)
theorem y_kIs2 {x y : String} {d : PyData} (h : okKind x = true) (h2 : okKind y = true) : kIs2 x y (.ok (.d d) s) = .ok (.d (.bool (isK d x || isK d y))) s := by simp [kIs2, R.bind, kindW, h, h2, isK]
/-! what a list holds: rules in the place of the definition -/
def kRl : Option B → Option (List W)
  | some (.lst ws) => some ws
  | _ => none
def kRo : Option Sl → Option (List W)
  | some (.own ws) => some ws
  | _ => none
theorem rl_list {ds : List PyData} : readL s (.d (.list ds)) = some (ds.map .d) := (rfl)
theorem rl_tup {ds : List PyData} : readL s (.d (.tuple ds)) = none := (rfl)
theorem rl_str {z : Str} : readL s (.d (.str z)) = none := (rfl)
theorem rl_int {z : Int} : readL s (.d (.int z)) = none := (rfl)
theorem rl_non : readL s (.d .none) = none := (rfl)
theorem rl_lw : readL s (.lw ws) = some ws := (rfl)
theorem rl_tw : readL s (.tw ws) = none := (rfl)
theorem rl_ref : readL ⟨sl, m⟩ (.ref a) = kRl (m[a]?) := by
  have h : readL ⟨sl, m⟩ (.ref a) = (match m[a]? with
    | some (.lst ws) => some ws
    | _ => none) := rfl
  refine h.trans ?_
  unfold kRl
  rfl
theorem rl_own : readL ⟨sl, m⟩ (.own a) = kRo (sl[a]?) := by
  have h : readL ⟨sl, m⟩ (.own a) = (match sl[a]? with
    | some (.own ws) => some ws
    | _ => none) := rfl
  refine h.trans ?_
  unfold kRo
  rfl
theorem rl_kRl : kRl (some (.lst ws)) = some ws := (rfl)
theorem rl_kRo : kRo (some (.own ws)) = some ws := (rfl)
end
end FE

/-! FC: refusals: raise of an own class, with and without a field. -/
namespace FE
open PySem PySem.Spec PyProof.Rows L2 KR
def sRaise (c : Str) (s : S) : O := .er ⟨c, none⟩ s.m
/-- raise c(f), whose __init__ keeps what it gets as x -/
def sRaiseF (c x : Str) (f : EF) (s : S) : O := bindO (f s) fun w s => if free w = true then .er ⟨c, some (x, w)⟩ s.m else .no
section
variable {X : Cx} {K : Fg} {E : XK} {pos pos' p p2 : Pos} {e : Expr}
/-- what is known of a class that is raised -/
abbrev Ex4 (K : Fg) (x : Str) : Prop := PySem.W.excIn K (He.ga K x) He.veBase "ValueError.__new__" = true ∧ PySem.W.keepIn K (.ref (He.ga K x)) = true ∧ PySem.W.subIn K (.ref (He.ga K x)) (.type "BaseException") = some true ∧ PySem.W.typeIn K (.ref (He.ga K x)) = some (.type "type")
theorem s_raise {x msg : Str} {j} (hc : X.calm = true) (tk : Takes X fun cls d _ H => E cls d H) (e4 : Ex4 K x) (g : X.mg x = some (.ref (He.ga K x))) (hg : Gl X x) (hK : X.K = K := by rfl) (hdb : (x == ("__debug__" : Str)) = false := by decide) :
    PS X (.Raise (some (.Call (.Name x p) [.Constant (.str msg) j p2] [] pos)) none pos') (rdS K E (sRaise x)) := by
  subst hK
  exact imp_ps (ps_raise hc tk (pmk_own PySem.F.excBase_ValueError e4.1 g e4.2.1 (raises_own e4.2.2.1 e4.2.2.2) hg hdb)) fun D σ H ⟨U, ix, A, s, r, p⟩ => p _ _ ix A H r.mem ⟨r.nd, fun u hu => (r.un u hu).1⟩ .refl ⟨rfl, rfl⟩
/-! a class with an __init__ of its own that keeps one field -/
def oexB (K : Fg) (x x0 f : Str) : Bool :=
  (match K.lookup (He.ga K x) with
    | some ⟨.type "type", _, .cls cd, sl⟩ => (match cd.mro, sl.toList with
      | .ref C' :: bm, [_, _, _, _, some (.builtin n), _] => C' == He.ga K x && n == "ValueError.__new__" && !cd.hasDel && cd.hasDict && PySem.HandSPX.refsVE bm
      | _, _ => false)
    | _ => false) &&
  decide (PySem.W.findIn K (.ref (He.ga K x)) "__setattr__" = some (some (.builtin "object.__setattr__"))) && decide (PySem.W.subIn K (.ref (He.ga K x)) (.type "BaseException") = some true) && decide (PySem.W.typeIn K (.ref (He.ga K x)) = some (.type "type")) &&
  PySem.W.keepIn K (.ref (He.ga K x)) && decide (PySem.W.findIn K (.ref (He.ga K x)) f = some none) &&
  decide (PySem.W.findIn K (.ref (He.ga K x)) "__init__" = some (some (.ref (He.ma K (He.ga K x) "__init__")))) && decide (PySem.W.typeIn K (.ref (He.ma K (He.ga K x) "__init__")) = some (.type "function")) &&
  PySem.W.readsIn K (He.ga K x0) (.type "type") && decide (PySem.W.specialIn K (.ref (He.ga K x0)) "__getattribute__" = some (some (.builtin "type.__getattribute__"))) &&
  (match PySem.W.findCls K (.ref (He.ga K x0)) (.type "type") "__init__" with
    | some (.val (.builtin n)) => n == "ValueError.__init__"
    | _ => false)
structure Oex (K : Fg) (x x0 f : Str) : Prop where
  oc : OexC K (He.ga K x)
  fld : PySem.W.findIn K (.ref (He.ga K x)) f = some none
  ini : PySem.W.findIn K (.ref (He.ga K x)) "__init__" = some (some (.ref (He.ma K (He.ga K x) "__init__")))
  fn : PySem.W.typeIn K (.ref (He.ma K (He.ga K x) "__init__")) = some (.type "function")
  rd : PySem.W.readsIn K (He.ga K x0) (.type "type") = true
  sp : PySem.W.specialIn K (.ref (He.ga K x0)) "__getattribute__" = some (some (.builtin "type.__getattribute__"))
  ve : PySem.W.findCls K (.ref (He.ga K x0)) (.type "type") "__init__" = some (.val (.builtin "ValueError.__init__"))
theorem oex_of {x x0 f : Str} (q : oexB K x x0 f = true) : Oex K x x0 f := by
  unfold oexB at q
  simp only [Bool.and_eq_true, decide_eq_true_eq] at q
  obtain ⟨⟨⟨⟨⟨⟨⟨⟨⟨⟨q1, q2⟩, q3⟩, q4⟩, q5⟩, q6⟩, q7⟩, q8⟩, q9⟩, q10⟩, q11⟩ := q
  refine ⟨⟨?_, q2, q3, q4, q5⟩, q6, q7, q8, q9, q10, ?_⟩
  · split at q1
    · rename_i dd cd sl ho
      split at q1
      · rename_i C' bm k0 k1 k2 k3 n k5 hm hs
        simp only [Bool.and_eq_true, beq_iff_eq, Bool.not_eq_true'] at q1
        obtain ⟨⟨⟨⟨rfl, rfl⟩, hdel⟩, hdict⟩, hr⟩ := q1
        obtain ⟨nm, bs, mro, ns, qn, hd, sn, sub, ab, col, del⟩ := cd
        dsimp only at hm hdel hdict
        subst hm hdel hdict
        have hsl : sl = #[k0, k1, k2, k3, some (.builtin "ValueError.__new__"), k5] := by
          obtain ⟨l⟩ := sl
          simp only at hs
          rw [hs]
        subst hsl
        exact ⟨nm, qn, ns, bs, bm, sn, sub, ab, col, dd, k0, k1, k2, k3, k5, ho, hr⟩
      · cases q1
    · cases q1
  · split at q11
    · rename_i n hn
      rw [hn, beq_iff_eq.mp q11]
    · cases q11
/-- B.__init__(self, ..), B an own class over ValueError without one of its own -/
theorem pe_base {x x0 f : Str} {p1 pa : Pos} {es : List Expr} {ta : TA} {pl : Sem Bool} (ox : Oex X.K x x0 f) (hg : Gl X x0) (hm : X.mg x0 = some (.ref (He.ga X.K x0))) (ha : PA X (e :: es) ta) (hdb : (x0 == ("__debug__" : Str)) = false := by decide)
    (hc : eval (.Call (.Attribute (.Name x0 p1) "__init__" pa) (e :: es) [] pos) X.env = (do
      let ov ← eval (.Name x0 p1) X.env
      standAt pa.atName
      let (f, first) ← holding [ov] (getMethod ov "__init__" pl)
      callWith pos f first (backTo pos (starEach (e :: es) X.env)) (backToKw pos (keywordEach [] X.env))) := by rfl)
    (he : starEach (e :: es) X.env = (false, eval e X.env) :: starEach es X.env := by rfl) (hpl : (backTo pos (starEach es X.env)).any (·.1) = false := by rfl) :
    PE X (.Call (.Attribute (.Name x0 p1) "__init__" pa) (e :: es) [] pos) (tVeI X.K ta) := ⟨fun pins s σ H Q I h => by
  refine PySem.W.methodCall_KW (ld_glob I hg hm ?_ hdb) hc
  refine PySem.W.method_cls I.kIn ox.sp (PySem.W.cls_value I.kIn ox.rd ox.ve (by decide +kernel) ?_)
  show wpAny _ _ (callWith pos (Value.builtin "ValueError.__init__") [] (backTo pos (starEach (e :: es) X.env)) []) _ _ _
  refine PyProof.Rows.callWith_method1 (thn (ha.run pos pins _ σ H _ (I.tok _) h) fun us s1 ⟨vs, H1, I1, r1, a, C, ws, ev, hl, T, ea, q⟩ => ?_) he hpl
  rw [ev] at r1
  cases r1 with
  | @cons _ w0 _ wr hw0 hwr =>
    have e0 : w0 = Value.ref a := hw0
    rw [e0]
    refine oinit_ok T I1 ea ?_ fun s' J => ⟨.non, H1, J, rfl, q⟩
    rw [← Paired.length hwr]
    exact Nat.le_trans hl (by decide)⟩
/-- what an own exception's __init__ keeps -/
def spX (K : Fg) (x f : Str) : Sp := fun vs H Q _ => ∃ a v, vs = [.ref a, v] ∧ H a = some (exo a (He.ga K x) none) ∧ ∀ d, H d = none → d ≠ a → Q .non (upd (upd H d (exd d [(f, v)])) a (exo a (He.ga K x) (some d)))
end
structure Exf (P : Program) (w : World) (K : Fg) (mg : Str → Option Value) (base : Heap) (k : Nat) (x x0 f : Str) : Prop where
  ex : ∃ fd ps, FnOk P w K mg base (L2.CX P w) k (He.ma K (He.ga K x) "__init__") fd ps (spX K x f) ∧ L2.Binds K fd ps []
  ox : Oex K x x0 f
  gl : mg x = some (.ref (He.ga K x))
section
variable {P : Program} {w : World} {K : Fg} {mg : Str → Option Value} {base : Heap}
theorem exf_fn {x x0 f qual : Str} {st : Stmt} {fd : FuncData} {N : List Str} {k : Nat} (ox : Oex K x x0 f) (g : mg x = some (.ref (He.ga K x))) (F : FunD K "__init__" qual (defArgs st) (defBody st) (defScope st) [] [] (He.ma K (He.ga K x) "__init__") fd) (S : FnScope N N (defScope st)) (hn : N.length = 2)
    (hb : ∀ (kV doc pm : Value) (an : Option Addr) (cdv ct : Value) (us : List Value), us.length = N.length → bindArgs (PySem.W.fnOf "__init__" qual (defArgs st) (defBody st) (defScope st) .none kV doc pm an cdv ct) ⟨us, []⟩ = pure (N.zip us))
    (hbody : ∀ (cdv : Value) (A : Around) (outer : List Env) (s : Shared) (H : Hp) (E : XK), Room k (A.deeper (envOfC qual (defScope st) s.heap.objs.size (He.ma K (He.ga K x) "__init__") cdv)) →
      PSs (cxOf (L2.CX P w) P w K mg base N qual (defScope st) (He.ma K (He.ga K x) "__init__") cdv A outer s H E) (defBody st) (tSeq (tDrop (tVeI K (tCons (tVar 0) (tCons (tVar 1) tNil)))) (tOst K f (tVar 0) (tVar 1)))) :
    Exf P w K mg base (k + 1) x x0 f := by
  refine ⟨⟨fd, N, F.ok S (fun vs H Q E ⟨a, v, e, _⟩ => by rw [e, hn]; rfl) fun cdv A outer s H vs Q E hr sp => ⟨_, hbody cdv A outer s H E hr, ?_⟩, F.bindsN hb⟩, ox, g⟩
  obtain ⟨a, v, rfl, ha, q⟩ := sp
  obtain ⟨n1, n2, rfl⟩ : ∃ n1 n2, N = [n1, n2] := by
    match N, hn with
    | [n1, n2], _ => exact ⟨n1, n2, rfl⟩
  have s0 : (L2.start [n1, n2] [.ref a, v])[0]? = some (some (.ref a)) := rfl
  have s1 : (L2.start [n1, n2] [.ref a, v])[1]? = some (some v) := rfl
  refine ⟨_, s0, _, s1, a, _, [v], rfl, by simp, ox.oc, ha, ⟨_, s1, _, s0, a, _, rfl, ox.oc, ox.fld, .inl ⟨ha, fun d hd nd => q d hd nd⟩⟩⟩
end
section
variable {X : Cx} {K : Fg} {E : XK} {pos pos' p : Pos} {e : Expr} {g : EF}
theorem s_raiseF {x x0 f : Str} {j k : Nat} (hc : X.calm = true) (tk : Takes X fun cls d _ H => E cls d H) (c : Exf X.prog X.w X.K X.mg X.base k x x0 f) (hr : Room j X.A) (hk : k + 1 ≤ j) (hx : Passes (L2.CX X.prog X.w) X (fun _ _ _ => False)) (hg : Gl X x) (he : PE X e (rd (kW K) E g)) (hK : X.K = K := by rfl)
    (hdb : (x == ("__debug__" : Str)) = false := by decide) (hs : starEach [e] X.env = (false, eval e X.env) :: starEach [] X.env := by rfl) (hpl : (backTo pos (starEach [] X.env)).any (·.1) = false := by rfl) :
    PS X (.Raise (some (.Call (.Name x p) [e] [] pos)) none pos') (rdS K E (sRaiseF x f g)) := by
  subst hK
  obtain ⟨fd, ps, F1, hb⟩ := c.ex
  refine imp_ps (ps_raise hc tk (pmk_oex c.ox.oc c.ox.ini c.ox.fn F1 (hr.mono hk) hb .nil hx hg c.gl (pa_cons he pa_nil hs) hdb hs hpl)) fun D σ H ⟨U, ix, A, s, r, p⟩ => ?_
  refine ⟨U, ix, A, s, r, PostS.bind p fun w s1 v ix1 H1 r1 x1 z1 p1 => ?_⟩
  split at p1
  · rename_i hf
    refine ⟨by simp, fun a hn => ⟨a, v, rfl, upd_same, fun d hd nd => ?_⟩⟩
    have hdn : H1 d = none := by rwa [upd_ne nd] at hd
    refine ⟨rfl, d, [(f, v)], by rw [upd_same], by rw [upd_ne nd, upd_same], hdn, ?_⟩
    have fr : Fr [] H1 (upd (del (upd (upd (upd H1 a (exo a (He.ga X.K x) none)) d (exd d [(f, v)])) a (exo a (He.ga X.K x) (some d))) a) d (.xd [(f, v)])) := .same fun b u hb => by
      have n1 : b ≠ a := ne_of_none hb hn
      have n2 : b ≠ d := ne_of_none hb hdn
      rw [upd_ne n2, del_ne n1, upd_ne n1, upd_ne n2, upd_ne n1]
      exact hb
    have r2 := r1.tr0 fr
    exact p1 _ _ ix1 A _ r2.mem ⟨r2.nd, fun u hu => (r2.un u hu).1⟩ (.of0 fr) ⟨rfl, d, v, rfl, upd_same, WR.tr (Ext.of0 fr).tr _ _ (WR.free _ _ hf z1)⟩
  · exact p1.elim
end
end FE

/-! FL: x(lambda: ..) for the def that tells a refusal's word. -/
namespace FE
open PySem PySem.Spec PyProof.Rows L2 KR
/-! ### how often a list of data holds a datum -/
def rHow (K : Fg) : V → List V → Hp → VK → Prop := fun o vs H Q => ∃ (l : Addr) (y : V) (d : PyData) (ds : List PyData), o = .ref l ∧ vs = [y] ∧ Dp K H (.ref l) (.list ds) ∧ Dp K H y d ∧ SeqAt.shaped (.list ds) = true ∧ SeqAt.shaped d = true ∧
  Q (.int ((ds.countP fun z => PyData.eqv z d : Nat) : Int)) H
theorem mt_how {X : Cx} (hu : X.A.units + 65 < cLine) : MtR X "list.count" (rHow X.K) := fun pins s σ H o vs u us Q I ro rvs ⟨l, y, d, ds, eo, ev, hl, hy, sl, sd, q⟩ => by
  subst eo
  subst ev
  cases ro
  obtain ⟨uy, rfl, ry⟩ := rvs.one
  obtain ⟨bs, r1⟩ := Dp.reads I d y uy hy ry
  have lay : PyData.canLayAll0 ds = true := SeqAt.canLay_of_shaped sl
  have room : X.A.units + 1 + min (PyData.depthAll ds) d.depth < cLine := room_in_shaped sd hu
  cases hl with
  | lst hs ha =>
    obtain ⟨its, rv, ⟨⟨cls, dd, data, slo⟩, n, ho, hc, hdn, hdt⟩, hlen⟩ := I.list hs
    simp only at hc hdt
    subst hc
    subst hdt
    obtain ⟨as, h4⟩ := Dp.readsAll I ds _ its ha rv
    have em : its.map (SeqAt.readOf s.heap) = ds := SeqAt.readsAll_map ds its as lay h4
    refine call_meets PySem.F.slot_list_count ⟨_, ho, rfl⟩ PySem.F.entry_list_count (PySem.F.args_list_count_2 _ _)
      (SeqAt.list_countAt l its.toArray n dd slo uy fun z => PyData.eqv (SeqAt.readOf s.heap z) d) ⟨ho, SeqAt.items_eqAt (vs := its.toArray) (show ReadsAll s.heap its.toArray.toList ds as from h4) r1 lay (SeqAt.canLay_of_shaped sd) room, ?_⟩
    have ec : its.toArray.toList.countP (fun z => PyData.eqv (SeqAt.readOf s.heap z) d) = ds.countP fun z => PyData.eqv z d := by
      rw [← em, List.countP_map]
      rfl
    rw [ec]
    exact ⟨.int ((ds.countP fun z => PyData.eqv z d : Nat) : Int), H, I.tok _, ⟨s.toks, rfl⟩, q⟩
def mHow (w : W) (as : List W) (s : S) : R S W := match toD s w, as with
  | some (.list ds), [x] => match toD s x with
    | some d => if SeqAt.shaped (.list ds) = true ∧ SeqAt.shaped d = true then .ok (.d (.int ((ds.countP fun z => PyData.eqv z d : Nat) : Int))) s else .no
    | none => .no
  | _, _ => .no
section
variable {X : Cx} {K : Fg} {E : XK} {pos p p2 : Pos} {e : Expr} {f : EF}
theorem m_How (hu : X.A.units + 65 < cLine) (hK : X.K = K := by rfl) : MtR X "list.count" (rdM (kW K) E mHow) := by
  subst hK
  refine mt_imp' (mt_how hu) fun x vs H Q ⟨U, ix, A, σ, s, w, ws, r, wa, wb, p⟩ => ?_
  unfold mHow at p
  split at p
  · rename_i ds y h1
    split at p
    · rename_i d h2
      split at p
      · rename_i hc
        obtain ⟨v, rfl, h4⟩ := WRs.one wb
        have q1 := toD_ok r wa h1
        have q2 := toD_ok r h4 h2
        cases q1 with
        | lst ha hb => exact ⟨_, v, d, ds, rfl, rfl, .lst ha hb, q2, hc.1, hc.2, p.done r (.mkI _)⟩
      · exact p.elim
    · exact p.elim
  · exact p.elim
/-- l.index(x), any data -/
def mIndexS (w : W) (as : List W) (s : S) : R S W := match toD s w, as with
  | some (.list ds), [x] => match toD s x with
    | some d => if SeqAt.shaped (.list ds) = true ∧ SeqAt.shaped d = true then (match ds.findIdx? (fun z => PyData.eqv z d) with
      | some j => .ok (.d (.int (j : Nat))) s
      | none => .no) else .no
    | none => .no
  | _, _ => .no
theorem m_IndexS (hu : X.A.units + 65 < cLine) (hK : X.K = K := by rfl) : MtR X "list.index" (rdM (kW K) E mIndexS) := by
  subst hK
  refine mt_imp' (mt_indexD hu) fun x vs H Q ⟨U, ix, A, σ, s, w, ws, r, wa, wb, p⟩ => ?_
  unfold mIndexS at p
  split at p
  · rename_i ds y h1
    split at p
    · rename_i d h2
      split at p
      · rename_i hc
        split at p
        · rename_i j hj
          obtain ⟨v, rfl, h4⟩ := WRs.one wb
          have q1 := toD_ok r wa h1
          have q2 := toD_ok r h4 h2
          obtain ⟨hlt, hp, hno⟩ := List.findIdx?_eq_some_iff_getElem.mp hj
          cases q1 with
          | lst ha hb =>
            refine ⟨_, v, d, ds, j, ds[j], rfl, rfl, .lst ha hb, q2, hc.1, hc.2, List.getElem?_eq_getElem hlt, hp, fun m z' hm hz => ?_, p.done r (.mkI _)⟩
            obtain ⟨hml, rfl⟩ := List.getElem?_eq_some_iff.mp hz
            exact Bool.not_eq_true _ |>.mp (hno m hm)
        · exact p.elim
      · exact p.elim
    · exact p.elim
  · exact p.elim
/-! ### what cannot come -/
def eNo (s : S) : R S W := .no
theorem f_no : PE X e (rd (kW K) E eNo) := ⟨fun pins s σ H Q I ⟨_, _, _, _, _, p⟩ => p.elim⟩
/-! ### isinstance(e, c), e the refusal that is held -/
def eIsE (a : Addr) (b : Bool) (f : EF) (s : S) : R S W := (f s).bind fun w s => match w with
  | .adr a' => if a' = a then .ok (.d (.bool b)) s else .no
  | _ => .no
theorem f_isE {a D : Addr} {b : Bool} {oe : Obj} {pn : List (Addr × Obj)} {c : Expr} {cv : V} {cu : Value} (C : ExcC X.K D) (hz : Zc (.ref D) none oe) (hf : ∃ vs, oe.data = .fields vs) (hg : Gl (X.suite a ((a, oe) :: pn)) "isinstance") (hm : X.mg "isinstance" = none)
    (ha : PE (X.suite a ((a, oe) :: pn)) e (rd (kW K) E f)) (hc : PE (X.suite a ((a, oe) :: pn)) c (tC cv)) (hcv : ∀ u, RelV cv u → u = cu) (hb : PySem.W.kitOne X.K (.ref D) cu = some b) (hK : X.K = K := by rfl)
    (he : starEach [e, c] X.env = (false, eval e X.env) :: starEach [c] X.env := by rfl) (he2 : starEach [c] X.env = (false, eval c X.env) :: starEach [] X.env := by rfl) (hpl : (backTo pos (starEach [c] X.env)).any (·.1) = false := by rfl) :
    PE (X.suite a ((a, oe) :: pn)) (.Call (.Name "isinstance" p) [e, c] [] pos) (rd (kW K) E (eIsE a b f)) := by
  subst hK
  refine imp_te (pe_callB (X := X.suite a ((a, oe) :: pn)) (call_isE C hz hf) hg hm (by decide +kernel) (pa_cons ha (pa_cons hc pa_nil he2) he) (by decide) (by decide) he hpl) fun σ H Q ⟨U, ix, A, s, r, p⟩ => ⟨U, ix, A, s, r, Post.bind p fun w s1 x ix1 H1 r1 x1 z1 p1 => ?_⟩
  split at p1
  · rename_i a'
    split at p1
    · rename_i h
      subst h
      cases z1
      exact ⟨cv, cu, b, rfl, hcv, hb, p1.done r1 (.mkB _)⟩
    · exact p1.elim
  · exact p1.elim
end
end FE

/-! FM: a lambda handed to the def that tells a refusal's word. -/
namespace FE
open PySem PySem.Spec PyProof.Rows L2 KR LamX
/-- the refusals without a field -/
def kndWord (c : Str) : Option Str := if c = "BadText" ∨ c = "BadKey" ∨ c = "BadName" ∨ c = "BadNames" ∨ c = "BadNumbers" ∨ c = "Taping" ∨ c = "NotTaping" ∨ c = "TooLong" then some c else none
/-- what is wished of a refusal -/
def EKnd (K : Fg) (Q : VK) : XK := fun cls d H => ∃ c wd, cls = .ref (He.ga K c) ∧ d = none ∧ kndWord c = some wd ∧ ∃ U ix m, Rel K U ix [] [] H ⟨[], m⟩ ∧ ∀ H', Rel K U ix [] [] H' ⟨[], m⟩ → Ext ix [] H ix [] H' → Q (.str wd) H'
/-- what the def makes of the lambda -/
def TTK (K : Fg) : (XK → Hp → VK → Prop) → Hp → VK → Prop := fun tl H Q => tl (EKnd K Q) H fun _ H' => Q (.str "") H'
/-- the slots of that def in the suite -/
def kslots (n i : Nat) (a : Addr) : List Sl := (List.replicate n Sl.no).set i (.v (.adr a))
theorem srs_rep {K : Fg} {ix av : List Addr} {H : Hp} : ∀ (σ : List (Option V)) (n : Nat), σ.length = n → SRs K ix av H σ (List.replicate n none) (List.replicate n .no)
  | [], n, h => by
    subst h
    exact .nil
  | o :: σ, n, h => by
    subst h
    exact .cons rfl (srs_rep σ _ rfl)
theorem srs_slots {K : Fg} {ix av : List Addr} {H : Hp} {a : Addr} : ∀ (σ : List (Option V)) (n i : Nat), σ.length = n → SRs K ix av H (σ.set i (some (.ref a))) (List.replicate n none) (kslots n i a)
  | [], n, i, h => by
    subst h
    exact .nil
  | o :: σ, n, 0, h => by
    subst h
    exact .cons ⟨rfl, _, rfl, .adr⟩ (srs_rep σ _ rfl)
  | o :: σ, n, i + 1, h => by
    subst h
    exact .cons rfl (srs_slots σ _ i rfl)
theorem rel_slots {K : Fg} {U ix : List Addr} {H : Hp} {m : M} {a : Addr} {σ : List (Option V)} {n i : Nat} (r : Rel K U ix [] [] H ⟨[], m⟩) (h : σ.length = n) : Rel K U ix (List.replicate n none) (σ.set i (some (.ref a))) H ⟨kslots n i a, m⟩ := by
  have e : ow (List.replicate n (none : Option Addr)) = [] := ow_rep n
  have t : Tr K ix (avo U ix []) H ix (avo U ix (List.replicate n none)) H := trs (A' := []) (fun _ _ h => h) fun b hb => by
    unfold avo at hb ⊢
    rw [e] at hb
    exact hb
  refine ⟨⟨r.mem.len, fun k b c h1 h2 => BR.tr t (fun o h => h) (r.mem.box k b c h1 h2)⟩, srs_slots σ n i h, ?_, fun u hu => ?_⟩
  · rw [e]
    exact r.nd
  · rw [e]
    exact r.un u hu
theorem Ext.noA {ix ix' : List Addr} {H H' : Hp} {A A' : List (Option Addr)} (e : ow A = []) (x : Ext ix A H ix' A' H') : Ext ix [] H ix' [] H' := by
  refine ⟨x.pre, fun a h => ?_, x.fr.mono fun b h => ?_⟩
  · have h' : a ∈ ix' := by
      rcases List.mem_append.mp h with z | z
      · exact z
      · cases z
    rcases x.new a (List.mem_append_left _ h') with z | z
    · rw [e] at z
      exact .inl z
    · exact .inr z
  · rw [e] at h
    exact h
theorem Rel.noS {K : Fg} {U ix : List Addr} {A : List (Option Addr)} {σ : L2.St} {H : Hp} {sl : List Sl} {m : M} (r : Rel K U ix A σ H ⟨sl, m⟩) : Rel K U ix [] [] H ⟨[], m⟩ := by
  have t : Tr K ix (avo U ix A) H ix (avo U ix []) H := trs (A' := A) (fun _ _ h => h) fun a h => by
    rcases List.mem_append.mp h with h | h
    · exact List.mem_append_left _ h
    · rcases List.mem_append.mp h with h | h
      · exact List.mem_append_right _ (List.mem_append_left _ h)
      · cases h
  refine ⟨⟨r.mem.len, fun n b a h1 h2 => BR.tr t (fun o h => h) (r.mem.box n b a h1 h2)⟩, .nil, ?_, fun u hu => ⟨fun z => ?_, (r.un u hu).2⟩⟩
  · show (ix ++ []).Nodup
    rw [List.append_nil]
    exact (List.nodup_append.mp r.nd).1
  · rcases List.mem_append.mp z with z | z
    · exact (r.un u hu).1 (List.mem_append_left _ z)
    · cases z
section
variable {X : Cx} {Ng : List Str} {x a q : Str} {sg : Scope} {g : Addr} {cdg : Value} {n : Str} {i j : Nat} {b₀ : Stmt} {suite : List Stmt} {p1 p2 p3 p4 p5 p6 p7 p8 : Pos} {G : Addr → Str → SF}
theorem pss_len {ss : List Stmt} {t : TS} (h : PSs X ss t) : PSs X ss fun D σ H => σ.length = X.N.length → t D σ H := ⟨fun pins s σ H D I q => h.run pins s σ H D I (q I.len)⟩
theorem pss_ex {α : Type} {ss : List Stmt} {C : α → Prop} {t : α → TS} (h : ∀ c, C c → PSs X ss (t c)) : PSs X ss fun D σ H => ∃ c, C c ∧ t c D σ H := ⟨fun pins s σ H D I ⟨c, hc, q⟩ => (h c hc).run pins s σ H D I q⟩
/-- try: a() / except x as n: suite / return "" -/
theorem kind_gives (hN : Ng.Nodup) (hi : Ng[i]? = some n) (hln : sg.names.lookup n = some .local) (hge : sg.names.lookup ("TapeError" : Str) = some .globalImplicit) (hme : X.mg "TapeError" = some (.ref (He.ga X.K "TapeError")))
    (hex : ∀ c, kndWord c ≠ none → PySem.W.exmOne X.K (.ref (He.ga X.K c)) (.ref (He.ga X.K "TapeError")) = some true)
    (hsu : ∀ (s : Shared) (H : Hp) (b : Addr) (oe : Obj) (c : Str) (pn : List (Addr × Obj)), Zc (.ref (He.ga X.K c)) none oe → (∃ vs, oe.data = .fields vs) → kndWord c ≠ none →
      PSs ((cxOf C8.CX0 X.prog X.w X.K X.mg X.base Ng x sg g cdg X.A X.stack s H C8.E0).nox.suite b ((b, oe) :: pn)) (b₀ :: suite) (rdS X.K (fun _ _ _ => False) (G b c)))
    (hG : ∀ b c wd m, kndWord c = some wd → ∃ sl, G b c ⟨kslots Ng.length i b, m⟩ = .rt (.d (.str wd)) ⟨sl, m⟩) (h0 : ∀ f : Addr, (L2.start Ng [V.ref f])[0]? = some (some (V.ref f))) :
    GivesTo X Ng x sg g cdg [.Try [.Expr (.Call (.Name a p1) [] [] p2) p3] [.ExceptHandler (some (.Name "TapeError" p4)) (some n) (b₀ :: suite) p5] [] [] p6, .Return (some (.Constant (.str "") j p7)) p8] a q (TTK X.K) := by
  intro f c' s H Q tl act hc h
  have hgl : Gl (cxOf C8.CX0 X.prog X.w X.K X.mg X.base Ng x sg g cdg X.A X.stack s H C8.E0).nox "TapeError" := hge
  refine ⟨_, pss_cons (ps_try_as (X := (cxOf C8.CX0 X.prog X.w X.K X.mg X.base Ng x sg g cdg X.A X.stack s H C8.E0).nox) (c := .ref (He.ga X.K "TapeError")) (i := i)
      (tb := fun W D σ H => ∃ Ech : XK, (∀ cls d σ' H', Ech cls d H' → W cls d σ' H') ∧ σ[0]? = some (some (.ref f)) ∧ H c' = some (CodeO c' q) ∧ tl Ech H fun _ H' => D.nx σ H')
      (ts := fun b cls d D σ H => σ.length = Ng.length → ∃ c, (cls = .ref (He.ga X.K c) ∧ d = none ∧ kndWord c ≠ none) ∧ rdS X.K (fun _ _ _ => False) (G b c) D σ H)
      rfl rfl hN hi (by show Env.kindOf _ _ = _; exact hln) ⟨hgl, by decide, .inl hme⟩ L2.takes0 (fun W pn xe tk _ => ?_) (fun b oe cls d pn hz hf => ?_)) (pss_one (ps_ret pe_str)), ?_⟩
  · refine ⟨fun pins s' σ H' D I h' => ?_⟩
    obtain ⟨Ech, hW, h1, h2, h3⟩ := h'
    exact (pss_one (ps_expr (pos := p3) (act W pn xe Ech p1 p2 tk hW))).run pins s' σ H' D I ⟨h1, h2, h3⟩
  · refine pss_len (X := (cxOf C8.CX0 X.prog X.w X.K X.mg X.base Ng x sg g cdg X.A X.stack s H C8.E0).nox.suite b ((b, oe) :: pn)) (pss_ex fun c hc => ?_)
    obtain ⟨rfl, rfl, hk⟩ := hc
    exact hsu s H b oe c pn hz hf hk
  · refine ⟨EKnd X.K Q, fun cls d σ' H' ⟨c, wd, e1, e2, e3, U, ix, m, r, hq⟩ => ?_, h0 f, hc, h⟩
    subst e1
    subst e2
    have hk : kndWord c ≠ none := by
      rw [e3]
      exact fun z => by cases z
    refine ⟨true, hex c hk, fun _ b hb hl => ⟨c, ⟨rfl, rfl, hk⟩, U, ix, List.replicate Ng.length none, ⟨kslots Ng.length i b, m⟩, rel_slots r (by simpa using hl), ?_⟩, fun z => by cases z⟩
    obtain ⟨sl, e4⟩ := hG b c wd m e3
    rw [e4]
    intro v σ2 ix2 A2 H2 r2 x2 w2
    have e5 : v = .str wd := by
      cases w2 with
      | d h => cases h; rfl
    subst e5
    have x3 : Ext ix [] H' ix2 [] H2 := x2.noA (ow_rep _)
    have e6 : ix2 = ix := by
      have l1 : ix2.length = m.length := r2.mem.len
      have l2 : ix.length = m.length := r.mem.len
      refine List.ext_getElem? fun k => ?_
      by_cases hk2 : k < ix.length
      · rw [List.getElem?_eq_getElem hk2]
        exact x3.pre k _ (List.getElem?_eq_getElem hk2)
      · rw [List.getElem?_eq_none (by omega), List.getElem?_eq_none (by omega)]
    subst e6
    exact hq H2 r2.noS x3
end
end FE

/-! FN: the rule for x(lambda: ..). -/
namespace FE
open PySem PySem.Spec PyProof.Rows L2 KR LamX
def hide (sl : List Sl) : List Sl := sl.map fun z => match z with
  | .own _ => .no
  | z => z
/-- the word of the refusal that b ends by, an empty text where it ends without; n: the table's box -/
def eKind (n : Nat) (pn q : Str) (b : EF) (s : S) : R S W := match s.m[n]? with
  | some (.tbl p' q') => if p' = pn ∧ q' = q then (match b ⟨hide s.sl, s.m⟩ with
    | .ok _ s' => .ok (.d (.str "")) ⟨s.sl, s'.m⟩
    | .er e m => match e.f, kndWord e.c with
      | none, some wd => .ok (.d (.str wd)) ⟨s.sl, m⟩
      | _, _ => .no
    | .no => .no) else .no
  | _ => .no
section
variable {K : Fg} {U ix : List Addr} {A : List (Option Addr)} {σ : L2.St} {H H1 : Hp} {s : S}
def tabs (ix : List Addr) (m : M) : List (Addr × Str) := (ix.zip m).filterMap fun y => match y.2 with
  | .tbl _ q => some (y.1, q)
  | _ => none
theorem tabs_mem {ix : List Addr} {m : M} {P : Addr} {q : Str} : (P, q) ∈ tabs ix m ↔ ∃ (n : Nat) (p : Str), ix[n]? = some P ∧ m[n]? = some (.tbl p q) := by
  unfold tabs
  rw [List.mem_filterMap]
  constructor
  · rintro ⟨⟨a, b⟩, h, e⟩
    obtain ⟨n, hn⟩ := List.getElem?_of_mem h
    obtain ⟨h1, h2⟩ := List.getElem?_zip_eq_some.mp hn
    cases b with
    | tbl p q' =>
      cases e
      exact ⟨n, p, h1, h2⟩
    | _ => cases e
  · rintro ⟨n, p, h1, h2⟩
    exact ⟨(P, .tbl p q), List.mem_of_getElem? (List.getElem?_zip_eq_some.mpr ⟨h1, h2⟩), rfl⟩
theorem Rel.tabs (r : Rel K U ix A σ H s) : Tabs (FE.tabs ix s.m) H := fun p hp => by
  obtain ⟨n, p', h1, h2⟩ := tabs_mem.mp (show (p.1, p.2) ∈ _ from hp)
  exact (r.mem.box n _ _ h2 h1).2
/-- a lambda has been made -/
theorem Rel.lam (r : Rel K U ix A σ H s) (e : ExtN H H1) (t : Tabs (FE.tabs ix s.m) H1) : Rel K U ix A σ H1 s ∧ Ext ix A H ix A H1 := by
  have nt : ∀ {b : Addr} {o : HO}, H b = some o → (∀ ps, o ≠ .tbl ps) → H1 b = some o := fun h n => e _ _ h n
  have T : Tr K ix (avo U ix A) H ix (avo U ix A) H1 := ⟨fun _ _ h => h, fun a xs h n => ⟨nt h (by intro ps z; cases z), n⟩, fun a xs h => by
    rcases h with (h | ⟨o, h⟩) | h
    · exact .inl (.inl (nt h (by intro ps z; cases z)))
    · exact .inl (.inr ⟨o, nt h (by intro ps z; cases z)⟩)
    · exact .inr h, fun a o u h => nt h (by intro ps z; cases z), fun a φ h => nt h (by intro ps z; cases z)⟩
  refine ⟨⟨⟨r.mem.len, fun n b a h1 h2 => ?_⟩, .of r.slo.len.1 r.slo.len.2 fun i o oa sl h1 h2 h3 => ?_, r.nd, fun u hu => ⟨(r.un u hu).1, ?_⟩⟩, ⟨fun _ _ h => h, fun _ h => .inl h, ?_⟩⟩
  · have h := r.mem.box n b a h1 h2
    cases b with
    | lst ws =>
      obtain ⟨xs, g1, g2⟩ := h
      exact ⟨xs, nt g1 (by intro ps z; cases z), WRs.tr T _ _ g2⟩
    | dct ws =>
      obtain ⟨xs, g1, g2⟩ := h
      exact ⟨xs, nt g1 (by intro ps z; cases z), NRs.tr T g2⟩
    | ins c ws =>
      obtain ⟨dx, xs, g1, g2⟩ := h
      exact ⟨dx, xs, nt g1 (by intro ps z; cases z), NRs.tr T g2⟩
    | tbl p q =>
      exact ⟨h.1, t (a, q) (tabs_mem.mpr ⟨n, p, h2, h1⟩)⟩
  · obtain ⟨o', oa', e1, e2, h⟩ := r.slo.get h3
    rw [h1] at e1
    rw [h2] at e2
    cases e1
    cases e2
    exact SR.tr T (fun c hc u hu => nt hu (by intro ps z; cases z)) h
  · obtain ⟨o, ho⟩ := (r.un u hu).2
    exact ⟨o, vis_of (nt (of_vis ho).1 (of_vis ho).2) (of_vis ho).2⟩
  · have go : ∀ {b : Addr} {o : HO}, vis H b = some o → vis H1 b = some o := fun h => vis_of (nt (of_vis h).1 (of_vis h).2) (of_vis h).2
    exact ⟨fun b o h _ => go h, fun h => go h, fun h => go h, fun h => go h⟩
theorem ow_nones : ∀ A : List (Option Addr), ow (A.map fun _ => (none : Option Addr)) = []
  | [] => rfl
  | _ :: A => ow_nones A
/-- the slots' own lists are out of sight -/
theorem Rel.hide (r : Rel K U ix A σ H s) : Rel K (U ++ ow A) ix (A.map fun _ => none) σ H ⟨FE.hide s.sl, s.m⟩ := by
  have t : Tr K ix (avo U ix A) H ix (avo (U ++ ow A) ix (A.map fun _ => none)) H := trs (A' := A) (fun _ _ h => h) fun a h => by
    unfold avo at h
    rw [ow_nones] at h
    exact av_down a |>.mp h
  have rd := r.down
  refine ⟨⟨rd.mem.len, fun n b a h1 h2 => BR.tr t (fun o h => h) (r.mem.box n b a h1 h2)⟩, .of ?_ ?_ fun i o oa sl h1 h2 h3 => ?_, ?_, fun u hu => ?_⟩
  · unfold FE.hide
    rw [List.length_map]
    exact r.slo.len.1
  · unfold FE.hide
    rw [List.length_map, List.length_map]
    exact r.slo.len.2
  · unfold FE.hide at h3
    rw [List.getElem?_map] at h3
    rw [List.getElem?_map] at h2
    cases e3 : s.sl[i]? with
    | none =>
      rw [e3] at h3
      cases h3
    | some z =>
      obtain ⟨o', oa', e1, e2, h⟩ := r.slo.get e3
      rw [e3] at h3
      rw [e2] at h2
      rw [h1] at e1
      cases e1
      cases h2
      cases h3
      cases z with
      | no => rfl
      | own ws => rfl
      | v w =>
        obtain ⟨_, v, e4, h4⟩ := h
        exact ⟨rfl, v, e4, WR.tr t _ _ h4⟩
  · rw [ow_nones]
    exact rd.nd
  · rw [ow_nones]
    exact rd.un u hu
end
/-- the def that tells a refusal's word: what is known of it -/
structure Kd (P : Program) (w : World) (K : Fg) (mg : Str → Option Value) (base : Heap) : Prop where
  ex : ∃ (g : Addr) (oc : Value) (od : Option Addr) (osl : Array (Option Value)) (pg : Arguments) (bg : List Stmt) (sg : Scope) (dV kV doc pm : Value) (an : Option Addr) (cdv ct : Value) (Ng : List Str) (a : Str),
    mg "_law_kind" = some (.ref g) ∧ PySem.W.keepIn K (.ref g) = true ∧ K.lookup g = some ⟨oc, od, .func (PySem.W.fnOf "_law_kind" "_law_kind" pg bg sg dV kV doc pm an cdv ct), osl⟩ ∧ PySem.W.codeIn K cdv "_law_kind" = true ∧
    L2.Binds K (PySem.W.fnOf "_law_kind" "_law_kind" pg bg sg dV kV doc pm an cdv ct) [a] [] ∧ FnScope Ng [a] sg ∧ Ng[0]? = some a ∧ Vis sg a ∧ (a == ("__debug__" : Str)) = false ∧ (a == ("__classdict__" : Str)) = false ∧
    ∀ (X : Cx) (q : Str), X.prog = P → X.w = w → X.K = K → X.mg = mg → X.base = base → Room 2 X.A → GivesTo X Ng "_law_kind" sg g cdv bg a q (TTK K)
section
variable {X : Cx} {K : Fg} {E : XK} {p lpos pos : Pos}
theorem imp_tex {α : Type} {e : Expr} {C : α → Prop} {t : α → TE} (h : ∀ T, C T → PE X e (t T)) : PE X e fun σ H Q => ∃ T, C T ∧ t T σ H Q := ⟨fun pins s σ H Q I ⟨T, c, q⟩ => (h T c).run pins s σ H Q I q⟩
theorem f_kind {pn q : Str} {n k : Nat} {params : Arguments} {body : Expr} {scope : Scope} {b : EF} (kd : Kd X.prog X.w X.K X.mg X.base) (hg : Gl X "_law_kind") (TB : TabB X.base X.mg (He.cT X.K (pn, none)).1 (He.cT X.K (pn, none)).2) (hcode : X.env.code = .ref (He.cT X.K (pn, none)).1) (hr : Room (k + 2) X.A)
    (L : LamS X.env.scope scope) (hdef : defaultsOf params X.env = ([], [])) (hbind : ∀ (q : Str) (cl : List (Str × Addr)) (pm cv ctv : Value), bindArgs (PySem.W.kla_fn "<lambda>" q params body scope cl pm cv ctv) ⟨[], []⟩ = pure [])
    (hbody : ∀ (A : Around) (outer : List Env) (s : Shared) (H : Hp) (E : XK) (f c' : Addr), Room k (A.deeper (lamEnv X scope s.heap.objs.size f c')) → PE (lamCx X A outer s H E scope f c') body (rd (kW K) E b))
    (hq : X.env.qual ++ "<lambda>" = q) (hK : X.K = K := by rfl) :
    PE X (.Call (.Name "_law_kind" p) [.Lambda params body scope lpos] [] pos) (rd (kW K) E (eKind n pn q b)) := by
  subst hK
  subst hq
  obtain ⟨g, oc, od, osl, pg, bg, sg, dV, kV, doc, pm, an, cdv, ct, Ng, a, h1, h2, h3, h4, h5, h6, h7, h8, h9, h10, hG⟩ := kd.ex
  refine imp_te (imp_tex (C := fun T : List (Addr × Str) => ((He.cT X.K (pn, none)).2, X.env.qual ++ "<lambda>") ∈ T ∧ ∀ y ∈ T, y.1 = (He.cT X.K (pn, none)).2 → y.2 = X.env.qual ++ "<lambda>") (t := fun T => tLam T (TTK X.K) fun E => rd (kW X.K) E b) fun T hT =>
    pe_lamcall (a := a) hg h1 h2 h3 h4 h5 h6 h7 h8 (hG X _ rfl rfl rfl rfl rfl (hr.mono (by omega))) TB hcode hT.1 hT.2 hr L hdef hbind hbody (by decide) h9 h10) fun σ H Q ⟨U, ix, A, s, r, p⟩ => ?_
  unfold eKind at p
  split at p
  · rename_i p' q' hn
    split at p
    · rename_i hpq
      obtain ⟨rfl, rfl⟩ := hpq
      have hix : ∃ P, ix[n]? = some P := by
        have hl : n < ix.length := by
          rw [r.mem.len]
          exact (List.getElem?_eq_some_iff.mp hn).1
        exact ⟨_, List.getElem?_eq_getElem hl⟩
      obtain ⟨P, hP⟩ := hix
      have hbox := r.mem.box n _ P hn hP
      have eP : P = (He.cT X.K (p', none)).2 := hbox.1
      have nd := (List.nodup_append.mp r.nd).1
      refine ⟨tabs ix s.m, ⟨tabs_mem.mpr ⟨n, p', by rw [← eP]; exact hP, hn⟩, fun y hy ey => ?_⟩, r.tabs, fun H1 eN T1 => ?_⟩
      · obtain ⟨n2, p2, e1, e2⟩ := tabs_mem.mp (show (y.1, y.2) ∈ _ from hy)
        rw [ey, ← eP] at e1
        have := ix_inj nd e1 hP
        subst this
        rw [hn] at e2
        exact (B.tbl.inj (Option.some.inj e2)).2.symm
      · obtain ⟨r1, x1⟩ := r.lam eN T1
        show rd (kW X.K) (EKnd X.K Q) b σ H1 fun _ H' => Q (.str "") H'
        refine ⟨U ++ ow A, ix, A.map fun _ => none, ⟨hide s.sl, s.m⟩, r1.hide, ?_⟩
        revert p
        cases b ⟨hide s.sl, s.m⟩ with
        | no => exact fun p => p
        | ok w s' =>
          intro p v ix' H' r' x' w'
          obtain ⟨sl', m'⟩ := s'
          have x0 : Ext ix [] H1 ix' [] H' := x'.noA (ow_nones _)
          exact p _ ix' H' (Rel.up r1 r'.noS x0) (x1.trans x0.up) (.d (.str _))
        | er e m =>
          intro p
          simp only at p
          split at p
          · rename_i wd hf hw
            intro c d ix' A' H' mr nu x' er
            obtain ⟨e1, e2⟩ := er
            rw [hf] at e2
            have x0 : Ext ix [] H1 ix' [] H' := x'.noA (ow_nones _)
            have rr : Rel X.K (U ++ ow A) ix' [] [] H' ⟨[], m⟩ := by
              have t : Tr X.K ix' (avo (U ++ ow A) ix' A') H' ix' (avo (U ++ ow A) ix' []) H' := trs (A' := A) (fun _ _ h => h) fun a h => by
                rcases List.mem_append.mp h with h | h
                · exact List.mem_append_left _ h
                · rcases List.mem_append.mp h with h | h
                  · exact List.mem_append_right _ (List.mem_append_left _ h)
                  · cases h
              refine ⟨⟨mr.len, fun n b a h1 h2 => BR.tr t (fun o h => h) (mr.box n b a h1 h2)⟩, .nil, ?_, fun u hu => ⟨fun z => ?_, ?_⟩⟩
              · show (ix' ++ []).Nodup
                rw [List.append_nil]
                exact (List.nodup_append.mp nu.1).1
              · rcases List.mem_append.mp z with z | z
                · exact nu.2 u hu (List.mem_append_left _ z)
                · cases z
              · obtain ⟨o, ho⟩ := (r1.hide.un u hu).2
                exact ⟨o, x'.fr.all _ _ ho (r1.hide.un u hu).1⟩
            refine ⟨e.c, wd, e1, e2, hw, U ++ ow A, ix', m, rr, fun H2 r2 x2 => ?_⟩
            have x3 : Ext ix [] H1 ix' [] H2 := x0.trans x2
            exact p _ ix' H2 (Rel.up r1 r2 x3) (x1.trans x3.up) (.d (.str _))
          · exact p.elim
    · exact p.elim
  · exact p.elim
end
end FE

/-! FO: defs that hold lambdas; what the head tells of refusals. -/
namespace FE
open PySem PySem.Spec PyProof.Rows L2 KR LamX
theorem pxl {X : Cx} {A : Around} {outer : List Env} {s : Shared} {H : Hp} {E : XK} {scope : Scope} {f c' : Addr} : Passes (L2.CX (lamCx X A outer s H E scope f c').prog (lamCx X A outer s H E scope f c').w) (lamCx X A outer s H E scope f c') E := passes_call (takes_of rfl rfl rfl rfl) fun _ _ _ _ h => h
section
variable {P : Program} {w : World} {K : Fg} {mg : Str → Option Value} {base : Heap}
/-- a def with a lambda in it: its code object is known -/
theorem cal_fnC {x : Str} {st : Stmt} {fd : FuncData} {N ps : List Str} {k n : Nat} {g : SF} (F : FunD K x x (defArgs st) (defBody st) (defScope st) [] [] (He.fAd K (x, none)) fd) (hm : mg x = some (.ref (He.fAd K (x, none)))) (S : FnScope N ps (defScope st)) (hn : ps.length = n)
    (hb : ∀ (kV doc pm : Value) (an : Option Addr) (cdv ct : Value) (us : List Value), us.length = ps.length → bindArgs (PySem.W.fnOf x x (defArgs st) (defBody st) (defScope st) .none kV doc pm an cdv ct) ⟨us, []⟩ = pure (ps.zip us))
    (hbody : ∀ (A : Around) (outer : List Env) (s : Shared) (H : Hp) (E : XK), Room k (A.deeper (envOfC x (defScope st) s.heap.objs.size (He.fAd K (x, none)) (.ref (He.cT K (x, none)).1))) →
      PSs (cxOf (L2.CX P w) P w K mg base N x (defScope st) (He.fAd K (x, none)) (.ref (He.cT K (x, none)).1) A outer s H E) (defBody st) (rdS K E g)) :
    Cal P w K mg base (k + 1) x (spF K n (fnF N.length n g)) := by
  refine ⟨_, fd, ps, ?_, hm, F.kp, F.bindsN hb⟩
  obtain ⟨oc, od, dV, kV, doc, pm, an, cdv, ct, osl, rfl, lk, hcd, _, _⟩ := F.ex
  obtain ⟨c, rfl⟩ := He.codeIn_ref hcd
  have ec : He.codeOf K (x, none) = c := He.codeOf_eq (p := (x, none)) lk rfl
  subst ec
  exact fn_of lk hcd S (spF_len hn) fun A outer s H vs Q E hr sp => ⟨_, hbody A outer s H E hr, fnF_ok sp⟩
theorem law_fnC {x : Str} {st : Stmt} {fd : FuncData} {N ps : List Str} {k n : Nat} {g : SF} (F : FunD K x x (defArgs st) (defBody st) (defScope st) [] [] (He.fAd K (x, none)) fd) (S : FnScope N ps (defScope st)) (hn : ps.length = n)
    (hbody : ∀ (A : Around) (outer : List Env) (s : Shared) (H : Hp) (E : XK), Room k (A.deeper (envOfC x (defScope st) s.heap.objs.size (He.fAd K (x, none)) (.ref (He.cT K (x, none)).1))) →
      PSs (cxOf (L2.CX P w) P w K mg base N x (defScope st) (He.fAd K (x, none)) (.ref (He.cT K (x, none)).1) A outer s H E) (defBody st) (rdS K E g)) :
    FnOk P w K mg base (L2.CX P w) (k + 1) (He.fAd K (x, none)) fd ps (spF K n (fnF N.length n g)) := by
  obtain ⟨oc, od, dV, kV, doc, pm, an, cdv, ct, osl, rfl, lk, hcd, _, _⟩ := F.ex
  obtain ⟨c, rfl⟩ := He.codeIn_ref hcd
  have ec : He.codeOf K (x, none) = c := He.codeOf_eq (p := (x, none)) lk rfl
  subst ec
  exact fn_of lk hcd S (spF_len hn) fun A outer s H vs Q E hr sp => ⟨_, hbody A outer s H E hr, fnF_ok sp⟩
/-- the def that tells a refusal's word -/
theorem kd_of {st : Stmt} {fd : FuncData} {g : Addr} {Ng : List Str} {a : Str} (F : FunD K "_law_kind" "_law_kind" (defArgs st) (defBody st) (defScope st) [] [] g fd) (hm : mg "_law_kind" = some (.ref g)) (S : FnScope Ng [a] (defScope st))
    (hb : ∀ (kV doc pm : Value) (an : Option Addr) (cdv ct : Value) (us : List Value), us.length = [a].length → bindArgs (PySem.W.fnOf "_law_kind" "_law_kind" (defArgs st) (defBody st) (defScope st) .none kV doc pm an cdv ct) ⟨us, []⟩ = pure ([a].zip us))
    (h0 : Ng[0]? = some a) (hv : Vis (defScope st) a) (hd : (a == ("__debug__" : Str)) = false) (hc : (a == ("__classdict__" : Str)) = false)
    (hG : ∀ (cdv : Value) (X : Cx) (q : Str), X.prog = P → X.w = w → X.K = K → X.mg = mg → X.base = base → Room 2 X.A → GivesTo X Ng "_law_kind" (defScope st) g cdv (defBody st) a q (TTK K)) : Kd P w K mg base := by
  have hbi := F.bindsN hb
  have hkp := F.kp
  obtain ⟨oc, od, dV, kV, doc, pm, an, cdv, ct, osl, rfl, lk, hcd, _, _⟩ := F.ex
  exact ⟨g, oc, od, osl, _, _, _, dV, kV, doc, pm, an, cdv, ct, Ng, a, hm, hkp, lk, hcd, hbi, S, h0, hv, hd, hc, fun X q e1 e2 e3 e4 e5 hr => hG cdv X q e1 e2 e3 e4 e5 hr⟩
end
/-! ### what the head tells of refusals -/
def kndL : List Str := ["BadText", "BadKey", "BadName", "BadNames", "BadNumbers", "Taping", "NotTaping", "TooLong"]
def kndA : List Str := ["BadKeys", "BadTape", "BadText", "BadKey", "BadName", "BadNames", "BadNumbers", "Taping", "NotTaping", "TooLong"]
theorem knd_mem {c : Str} (h : kndWord c ≠ none) : c ∈ kndL := by
  unfold kndWord at h
  split at h
  · rename_i q
    unfold kndL
    rcases q with q | q | q | q | q | q | q | q <;> subst q <;> simp
  · exact absurd rfl h
def excB (K : Fg) (D : Addr) : Bool :=
  decide (PySem.W.findIn K (.ref D) "__getattribute__" = some (some (.builtin "BaseException.__getattribute__"))) && (decide (PySem.W.findIn K (.ref D) "__getattr__" = some none) && (decide (PySem.W.subIn K (.ref D) (.type "BaseException") = some true) &&
  (PySem.W.hasDictIn K D && (decide (PySem.W.findIn K (.ref D) "__class__" = some (some (.builtin "object.__class__"))) && (decide (PySem.W.specialIn K (.builtin "object.__class__") "__get__" = some (some (.builtin "getset_descriptor.__get__"))) &&
  (decide (PySem.W.takesIn K (.builtin "object.__class__") = some true) && decide (PySem.W.mroIn K D (.type "object") = some true)))))))
theorem excB_ok {K : Fg} {D : Addr} (h : excB K D = true) : ExcC K D := by
  unfold excB at h
  simp only [Bool.and_eq_true, decide_eq_true_eq] at h
  obtain ⟨h1, h2, h3, h4, h5, h6, h7, h8⟩ := h
  exact ⟨h1, h2, h3, h4, h5, h6, h7, h8⟩
def kndB (K : Fg) : Bool := kndL.all fun c => excB K (He.ga K c) && (decide (PySem.W.exmOne K (.ref (He.ga K c)) (.ref (He.ga K "TapeError")) = some true) && (decide (PySem.W.kitOne K (.ref (He.ga K c)) (.type "ValueError") = some true) &&
  kndA.all fun C => decide (PySem.W.kitOne K (.ref (He.ga K c)) (.ref (He.ga K C)) = some (decide (c = C)))))
structure KdF (K : Fg) : Prop where
  exm : ∀ c, kndWord c ≠ none → PySem.W.exmOne K (.ref (He.ga K c)) (.ref (He.ga K "TapeError")) = some true
  isC : ∀ c, kndWord c ≠ none → ExcC K (He.ga K c)
  kve : ∀ c, kndWord c ≠ none → PySem.W.kitOne K (.ref (He.ga K c)) (.type "ValueError") = some true
  kit : ∀ c C, kndWord c ≠ none → C ∈ kndA → PySem.W.kitOne K (.ref (He.ga K c)) (.ref (He.ga K C)) = some (decide (c = C))
theorem kdf_of {K : Fg} (h : kndB K = true) : KdF K := by
  have go : ∀ c, kndWord c ≠ none → ExcC K (He.ga K c) ∧ PySem.W.exmOne K (.ref (He.ga K c)) (.ref (He.ga K "TapeError")) = some true ∧ PySem.W.kitOne K (.ref (He.ga K c)) (.type "ValueError") = some true ∧
      ∀ C ∈ kndA, PySem.W.kitOne K (.ref (He.ga K c)) (.ref (He.ga K C)) = some (decide (c = C)) := fun c hc => by
    have q := List.all_eq_true.mp h c (knd_mem hc)
    simp only [Bool.and_eq_true, decide_eq_true_eq, List.all_eq_true] at q
    exact ⟨excB_ok q.1, q.2.1, q.2.2.1, q.2.2.2⟩
  exact ⟨fun c h => (go c h).2.1, fun c h => (go c h).1, fun c h => (go c h).2.2.1, fun c C h hC => (go c h).2.2.2 C hC⟩
end FE

/-! FP: sorted(d) of a dict by texts. -/
namespace FE
open PySem PySem.Spec PyProof.Rows L2 KR
def leS (a b : Str) : Bool := !Spec.ltCps b.cps.toList a.cps.toList
def sortK (ks : List Str) : List Str := ks.mergeSort leS
theorem leS_iff {a b : Str} : leS a b = true ↔ a.cps.toList ≤ b.cps.toList := by
  unfold leS
  rw [ltCps_eq]
  simp
theorem leS_trans (a b c : Str) (h1 : leS a b = true) (h2 : leS b c = true) : leS a c = true := leS_iff.mpr (List.le_trans (leS_iff.mp h1) (leS_iff.mp h2))
theorem leS_total (a b : Str) : (leS a b || leS b a) = true := by
  rcases List.le_total a.cps.toList b.cps.toList with h | h
  · rw [leS_iff.mpr h]
    rfl
  · rw [leS_iff.mpr h, Bool.or_true]
theorem leS_anti {a b : Str} (h1 : leS a b = true) (h2 : leS b a = true) : a = b := by
  have e := List.le_antisymm (leS_iff.mp h1) (leS_iff.mp h2)
  obtain ⟨⟨a⟩⟩ := a
  obtain ⟨⟨b⟩⟩ := b
  exact congrArg (fun l => (⟨⟨l⟩⟩ : Str)) e
theorem rising_pw : ∀ (p : Str) (l : List Str), risingS p l = true → (p :: l).Pairwise fun a b => leS a b = true
  | p, [], _ => by simp
  | p, x :: r, h => by
    obtain ⟨h1, h2⟩ := Bool.and_eq_true_iff.mp (show (!ltCps x.cps.toList p.cps.toList && risingS x r) = true from h)
    have ih := rising_pw x r h2
    refine List.pairwise_cons.mpr ⟨fun y hy => ?_, ih⟩
    rcases List.mem_cons.mp hy with e | e
    · subst e
      exact h1
    · exact leS_trans p x y h1 ((List.pairwise_cons.mp ih).1 y e)
theorem sorted_pw : ∀ {l : List Str}, sortedS l = true → l.Pairwise fun a b => leS a b = true
  | [], _ => .nil
  | x :: r, h => rising_pw x r h
theorem sortK_uniq {ys ks : List Str} (p : ys.Perm ks) (h : ys.Pairwise fun a b => leS a b = true) : ys = sortK ks :=
  List.Perm.eq_of_pairwise (fun a b _ _ h1 h2 => leS_anti h1 h2) h (List.pairwise_mergeSort leS_trans leS_total ks) (p.trans (List.mergeSort_perm ks leS).symm)
theorem sortK_id {ks : List Str} (h : ks.Pairwise fun a b => leS a b = true) : sortK ks = ks := (sortK_uniq (.refl _) h).symm
def bSortD (ws : List W) (s : S) : R S (List W) := match ws with
  | [.ref a] => match s.m[a]? with
    | some (.dct kvs) => if kvs.length < 64 then .ok ((sortK (kvs.map (·.1))).map fun z => .d (.str z)) s else .no
    | _ => .no
  | _ => .no
theorem NRs.keys {K : Fg} {ix av : List Addr} {H : Hp} : ∀ {vs : List (Key × V)} {ws : List (Str × W)}, NRs K ix av H (Sum.inr : Str → Key) vs ws → vs.map (·.1) = (ws.map (·.1)).map Sum.inr
  | _, _, .nil => rfl
  | _, _, .cons h r => by
    rw [List.map_cons, List.map_cons, List.map_cons, NRs.keys r]
section
variable {X : Cx} {K : Fg} {E : XK}
theorem b_SortD (hc : X.calm = true) : CallR X (.builtin "sorted") (rdC (kL K) E bSortD) := call_imp (call_sortedD hc) fun xs H Q ⟨U, ix, A, σ, s, ws, r, wa, p⟩ => by
  unfold bSortD at p
  split at p
  · rename_i a
    split at p
    · rename_i kvs q
      split at p
      · rename_i hl
        obtain ⟨v, rfl, h0⟩ := WRs.one wa
        cases h0 with
        | @ref _ ad h =>
          obtain ⟨ks, h1, h2⟩ := r.mem.box a _ ad q h
          refine ⟨ad, ks, kvs.map (·.1), rfl, .of h1, NRs.keys h2, by rw [List.length_map]; exact hl, fun ys b hp hs hb => ?_⟩
          have e := sortK_uniq hp (sorted_pw hs)
          subst e
          have g := p.newL r (strs_wr (ix := ix) (av := avo U ix A) (A := A) (H := H) (sortK (kvs.map (·.1))))
          exact g.go b hb
      · exact p.elim
    · exact p.elim
  · exact p.elim
end
end FE

/-! FQ: d.update(d2). -/
namespace FE
open PySem PySem.Spec PyProof.Rows L2 KR
section
variable {X : Cx} {pins : List (Addr × Obj)} {σ : L2.St} {H : Hp} {s : Shared} {a b : Addr} {kvs more : List (Key × V)} {A : Around} {E : Value → Shared → Prop}
theorem d_update {Q : Value → Shared → Prop} (I : Inv X pins σ H s) (e : H a = some (.dK kvs)) (e2 : H b = some (.dK more)) (ne : a ≠ b) (hz : kvs.length + more.length ≤ sizeLine) (h : ∀ s', Inv X pins σ (upd H a (.dK (mergeK kvs more))) s' → Q .none s') :
    wpAny (model X.prog X.w) A (call (.builtin "dict.update") [.ref a, .ref b]) Q E s := by
  obtain ⟨z, hd, vs, rel, dd⟩ := dk_of I.hok e
  obtain ⟨z2, hd2, rs, rel2, dd2⟩ := dk_of I.hok e2
  refine call_meetsIn PySem.F.slot_dict_update dd.typeIs PySem.F.entry_dict_update (PySem.F.args_dict_update_2 _ _) (meets_dict_update (mixKind X.prog X.w) a b ne hd2)
    ⟨vs, rs, dd, dd2, by rw [← rel.length, ← rel2.length]; exact hz, fun h' dd' _ hs => h _ ?_⟩
  have he : ∃ q, h'.get? a = some q := let ⟨q, _, _, hq, _⟩ := dd'; ⟨q, hq⟩
  exact d_write (t' := s.toks) I (by rw [e]; exact True.intro) hs he (dk_new (Nat.le_trans (length_mergeK more kvs) hz) hd (rel2.merge rel) dd')
end
def mrgD (kvs more : List (Str × W)) : List (Str × W) := more.foldl (fun acc kv => putD kv.1 kv.2 acc) kvs
theorem NRs.merge {K : Fg} {ix av : List Addr} {H : Hp} : ∀ {ms : List (Key × V)} {ws : List (Str × W)}, NRs K ix av H (Sum.inr : Str → Key) ms ws → ∀ {vs : List (Key × V)} {us : List (Str × W)}, NRs K ix av H (Sum.inr : Str → Key) vs us → NRs K ix av H (Sum.inr : Str → Key) (mergeK vs ms) (mrgD us ws)
  | _, _, .nil, _, _, h => h
  | _, _, .cons h1 r, _, _, h => NRs.merge r (NRs.putD h1 h)
def tUpd (td ty : TE) : TE := fun σ H Q => td σ H fun x H1 => ∃ a, x = .ref a ∧ IsD H1 a ∧ ty σ H1 fun y H2 => ∃ (b : Addr) (kvs more : List (Key × V)), y = .ref b ∧ H2 a = some (.dK kvs) ∧ H2 b = some (.dK more) ∧ a ≠ b ∧ kvs.length + more.length ≤ sizeLine ∧
  Q .non (upd H2 a (.dK (mergeK kvs more)))
section
variable {X : Cx} {o e : Expr} {apos cpos : Pos} {td ty : TE}
theorem pe_upd (ho : PE X o td) (he : PE X e ty) (m : M1 X o "update" apos e cpos) : PE X (.Call (.Attribute o "update" apos) [e] [] cpos) (tUpd td ty) := by
  refine ⟨fun pins s σ H Q I h => ?_⟩
  refine wpAny_Call_method m.base m.few m.line PySem.F.plainAttrs_dict PySem.F.slot_dict_update PySem.F.type_dict_update (thn (ho.run pins s σ H _ I h) fun u s1 ⟨x, H1, I1, rx, a, ex, d, q1⟩ => ?_)
  subst ex
  obtain rfl : u = Value.ref a := rx
  obtain ⟨t1, t2, _⟩ := isD_at I1 d
  refine ⟨t1, t2, ?_⟩
  rw [m.trees]
  refine Calls.callWith_builtin rfl (Calls.evalArgs_plain (Calls.spliced_cons (thn (he.run pins s1 σ H1 _ I1 q1) fun iv s2 ⟨y, H2, I2, ry, b, kvs, more, eb, h1, h2, ne, hz, q2⟩ => Calls.spliced_nil ?_)))
  subst eb
  obtain rfl : iv = Value.ref b := ry
  exact d_update I2 h1 h2 ne hz fun s3 I3 => ⟨.non, _, I3, rfl, q2⟩
end
section
variable {X : Cx} {K : Fg} {E : XK} {o e : Expr} {apos cpos : Pos} {f g : EF}
def eUpd (f g : EF) (s : S) : R S W := (f s).bind fun d s => match d with
  | .ref a => match s.m[a]? with
    | some (.dct _) => (g s).bind fun k s => match k with
      | .ref b => match s.m[a]?, s.m[b]? with
        | some (.dct kvs), some (.dct more) => if a ≠ b ∧ kvs.length + more.length < 1000 then .ok (.d .none) { s with m := s.m.set a (.dct (mrgD kvs more)) } else .no
        | _, _ => .no
      | _ => .no
    | _ => .no
  | _ => .no
theorem f_upd (ho : PE X o (rd (kW K) E f)) (he : PE X e (rd (kW K) E g)) (m : M1 X o "update" apos e cpos) :
    PE X (.Call (.Attribute o "update" apos) [e] [] cpos) (rd (kW K) E (eUpd f g)) := imp_te (pe_upd ho he m) fun σ H Q ⟨U, ix, A, s, r, p⟩ => by
  refine ⟨U, ix, A, s, r, Post.bind p fun d s1 x ix1 H1 r1 x1 z1 p1 => ?_⟩
  split at p1
  · rename_i a
    split at p1
    · rename_i kvs0 q0
      cases z1 with
      | @ref _ ad hx =>
        obtain ⟨ks0, h1, h2⟩ := r1.mem.box a _ ad q0 hx
        refine ⟨ad, rfl, .inl ⟨ks0, .inl h1⟩, U, ix1, A, s1, r1, Post.bind p1 fun k s2 y ix2 H2 r2 x2 z2 p2 => ?_⟩
        split at p2
        · rename_i b
          split at p2
          · rename_i kvs more q1 q2
            split at p2
            · rename_i hc
              cases z2 with
              | @ref _ bd hy =>
                have hx2 := x2.pre _ _ hx
                obtain ⟨ks, g1, g2⟩ := r2.mem.box a _ ad q1 hx2
                obtain ⟨ms, g3, g4⟩ := r2.mem.box b _ bd q2 hy
                have ne : ad ≠ bd := fun z => hc.1 (ix_inj (List.nodup_append.mp r2.nd).1 (by rw [← z] at hy; exact hx2) (by rw [← z] at hy; exact hy))
                refine ⟨bd, ks, ms, rfl, g1, g3, ne, by rw [NRs.len g2, NRs.len g4]; have := sizeLine_eq; omega, ?_⟩
                have f4 : Fr [ad] H2 (upd H2 ad (.dK (mergeK ks ms))) := .put (List.mem_singleton.mpr rfl) g1 True.intro
                have x4 : Ext ix2 A H2 ix2 A _ := .put (List.mem_append_left _ (List.mem_of_getElem? hx2)) f4
                have q4 := r2.put hx2 f4 (b := .dct (mrgD kvs more)) ⟨_, upd_same, NRs.merge (NRs.tr x4.tr g4) (NRs.tr x4.tr g2)⟩
                exact p2 _ _ _ q4.1 q4.2 (.d .non)
            · exact p2.elim
          · exact p2.elim
        · exact p2.elim
    · exact p1.elim
  · exact p1.elim
end
section
variable {sl : List Sl} {m : M} {s : S} {f g : EF} {w : W} {kvs more : List (Str × W)} {a b : Nat}
def kU3 (a b : Nat) (s : S) : Option B → Option B → R S W
  | some (.dct kvs), some (.dct more) => if a ≠ b ∧ kvs.length + more.length < 1000 then .ok (.d .none) { s with m := s.m.set a (.dct (mrgD kvs more)) } else .no
  | _, _ => .no
def kU2 (a : Nat) (r : R S W) : R S W := r.bind fun k s => match k with
  | .ref b => kU3 a b s (s.m[a]?) (s.m[b]?)
  | _ => .no
def kU1' (a : Nat) (g : EF) (s : S) : Option B → R S W
  | some (.dct _) => kU2 a (g s)
  | _ => .no
def kU0 (g : EF) (r : R S W) : R S W := r.bind fun d s => match d with
  | .ref a => kU1' a g s (s.m[a]?)
  | _ => .no
theorem y_upd : eUpd f g s = kU0 g (f s) := by
  unfold eUpd kU0
  congr 1
  all_goals
    funext d s
    cases d with
    | ref a =>
      simp only
      cases s.m[a]? with
      | none => rfl
      | some b => cases b with
        | dct kvs =>
          simp only [kU1', kU2]
          congr 1
          all_goals
            funext k s
            cases k with
            | ref b =>
              simp only
              cases s.m[a]? with
              | none => rfl
              | some x =>
                cases s.m[b]? with
                | none => cases x <;> rfl
                | some y => cases x <;> cases y <;> rfl
            | _ => rfl
        | _ => rfl
    | _ => rfl
theorem y_kU0 : kU0 g (.ok (.ref a) ⟨sl, m⟩) = kU1' a g ⟨sl, m⟩ (m[a]?) := (rfl)
theorem y_kU1' : kU1' a g s (some (.dct kvs)) = kU2 a (g s) := (rfl)
theorem y_kU2 : kU2 a (.ok (.ref b) ⟨sl, m⟩) = kU3 a b ⟨sl, m⟩ (m[a]?) (m[b]?) := (rfl)
theorem y_kU3 (h : a ≠ b) (h2 : kvs.length + more.length < 1000) : kU3 a b ⟨sl, m⟩ (some (.dct kvs)) (some (.dct more)) = .ok (.d .none) ⟨sl, m.set a (.dct (mrgD kvs more))⟩ := by
  unfold kU3
  simp only
  rw [if_pos ⟨h, h2⟩]
end
theorem y_gW3 {sl : List Sl} {m : M} {i j k : Nat} {a b c : W} (h : frees [a, b, c] = true) : gT (gsCons (gN i) (gsCons (gN j) (gsCons (gN k) gsNil))) 3 (.tw [a, b, c]) ⟨sl, m⟩ = .ok () ⟨((sl.set i (.v a)).set j (.v b)).set k (.v c), m⟩ := by
  have h1 : free a = true ∧ free b = true ∧ free c = true := by simpa [frees] using h
  simp [gT, readT, h, gsCons, gsNil, gN, h1, R.bind]
end FE

/-! FR: comprehensions over lists that may change elsewhere: read at each turn. -/
namespace FE
open PySem PySem.Spec PyProof.Rows L2 KR
def kJ (K : Fg) : Kind K W It := ⟨fun U A _ _ ix H _ J w => ∃ a, WR K ix A (avo U ix A) H (.ref a) w ∧ J = Itl K a, fun _ _ h => h⟩
def eLv (f : EF) (s : S) : R S W := (f s).bind fun w s => if (readL s w).isSome = true then .ok w s else .no
def loopCL (w : W) (n i : Nat) (c : S → R S Bool) (e : EF) : Nat → S → R S (List W)
  | 0, s => match readL s w with
    | some ws => if ws.length = n then .ok [] s else .no
    | none => .no
  | r + 1, s => match readL s w with
    | some ws => if ws.length = n then (match ws[n - (r + 1)]? with
      | some x => if free x = true then (match c { s with sl := s.sl.set i (.v x) } with
        | .ok true s1 => match e s1 with
          | .ok w' s2 => if free w' = true then (match loopCL w n i c e r { s2 with sl := s2.sl.set i .no } with
            | .ok r s3 => .ok (w' :: r) s3
            | _ => .no) else .no
          | _ => .no
        | .ok false s1 => loopCL w n i c e r { s1 with sl := s1.sl.set i .no }
        | _ => .no) else .no
      | none => .no) else .no
    | none => .no
def eCompL (it : EF) (i : Nat) (c : S → R S Bool) (e : EF) (s : S) : R S (List W) := (it s).bind fun w s1 => match readL s1 w with
  | some ws => if ws.length ≤ 100000 then (match s1.sl[i]? with
    | none | some (.own _) => .no
    | some z => match loopCL w ws.length i c e ws.length { s1 with sl := s1.sl.set i .no } with
      | .ok r s2 => .ok r { s2 with sl := s2.sl.set i z }
      | _ => .no) else .no
  | none => .no
theorem walk_live {K : Fg} {a : Addr} {n : Nat} : Walk (Itl K a) n (fun H => ∃ xs, H a = some (.lst xs) ∧ xs.length = n) (fun i H x H' => H' = H ∧ ∀ xs, H a = some (.lst xs) → xs[i]? = some x) :=
  ⟨fun i H hi ⟨xs, h, hl⟩ => ⟨xs, xs[i], .inl (.inl h), by simp [hl, hi]⟩, fun H ⟨xs, h, hl⟩ => ⟨xs, .inl (.inl h), Nat.le_of_eq hl⟩, fun i H x H' _ _ y => ⟨y.1, fun xs h => y.2 xs (.inl (.inl h))⟩⟩
theorem loopCL_read {w : W} {n i r : Nat} {c : S → R S Bool} {e : EF} {s s2 : S} {rest : List W} (h : loopCL w n i c e r s = .ok rest s2) : ∃ ws, readL s w = some ws ∧ ws.length = n := by
  cases r with
  | zero =>
    unfold loopCL at h
    cases q : readL s w with
    | none =>
      rw [q] at h
      cases h
    | some ws =>
      rw [q] at h
      simp only at h
      split at h
      · rename_i hl
        exact ⟨ws, rfl, hl⟩
      · cases h
  | succ r =>
    unfold loopCL at h
    cases q : readL s w with
    | none =>
      rw [q] at h
      cases h
    | some ws =>
      rw [q] at h
      simp only at h
      split at h
      · rename_i hl
        exact ⟨ws, rfl, hl⟩
      · cases h
section
variable {K : Fg} {U ix : List Addr} {A : List (Option Addr)} {H : Hp} {σ : L2.St} {s s2 : S} {w : W} {n i : Nat} {c : S → R S Bool} {e : EF} {rest : List W} {a : Addr}
theorem live_at {r : Nat} (r1 : Rel K U ix A σ H s) (hw : WR K ix A (avo U ix A) H (.ref a) w) (h : loopCL w n i c e r s = .ok rest s2) : ∃ xs, H a = some (.lst xs) ∧ xs.length = n := by
  obtain ⟨ws, h1, h2⟩ := loopCL_read h
  obtain ⟨a', xs, e1, h3, h4⟩ := readL_ok r1 hw h1
  cases e1
  exact ⟨xs, h3, by rw [WRs.len h4, h2]⟩
theorem live_end (h : loopCL w n i c e 0 s = .ok rest s2) : rest = [] ∧ s = s2 := by
  unfold loopCL at h
  cases q : readL s w with
  | none =>
    rw [q] at h
    cases h
  | some ws =>
    rw [q] at h
    simp only at h
    split at h
    · cases h
      exact ⟨rfl, rfl⟩
    · cases h
theorem live_step {k : Nat} {x : V} (r1 : Rel K U ix A σ H s) (hw : WR K ix A (avo U ix A) H (.ref a) w) (hk : k < n) (hx : ∀ xs, H a = some (.lst xs) → xs[k]? = some x) (h : loopCL w n i c e (n - k) s = .ok rest s2) :
    ∃ wk, free wk = true ∧ WR K ix [] (avo U ix A) H x wk ∧ (match c { s with sl := s.sl.set i (.v wk) } with
        | .ok true s1 => match e s1 with
          | .ok w' s2 => if free w' = true then (match loopCL w n i c e (n - (k + 1)) { s2 with sl := s2.sl.set i .no } with
            | .ok r s3 => .ok (w' :: r) s3
            | _ => .no) else .no
          | _ => .no
        | .ok false s1 => loopCL w n i c e (n - (k + 1)) { s1 with sl := s1.sl.set i .no }
        | _ => .no) = R.ok rest s2 := by
  obtain ⟨m, hm⟩ : ∃ m, n - k = m + 1 := ⟨n - k - 1, by omega⟩
  have em : n - (k + 1) = m := by omega
  have ek : n - (m + 1) = k := by omega
  rw [hm] at h
  rw [em]
  unfold loopCL at h
  rw [ek] at h
  cases q : readL s w with
  | none =>
    rw [q] at h
    cases h
  | some ws =>
    rw [q] at h
    simp only at h
    split at h
    · rename_i hl
      obtain ⟨a', xs, e1, h3, h4⟩ := readL_ok r1 hw q
      cases e1
      cases q2 : ws[k]? with
      | none =>
        rw [q2] at h
        cases h
      | some wk =>
        rw [q2] at h
        simp only at h
        split at h
        · rename_i hf
          obtain ⟨v, e2, h5⟩ := WRs.get h4 q2
          rw [hx xs h3] at e2
          cases e2
          exact ⟨wk, hf, WR.free _ _ hf h5, h⟩
        · cases h
    · cases h
end
section
variable {X : Cx} {K : Fg} {E : XK} {it : EF} {i : Nat} {c : S → R S Bool} {e : EF} {f : EF} {tg : Expr} {el : Expr}
theorem i_live (he : PE X el (rd (kW K) E f)) (hK : X.K = K := by rfl) : PI X tg el (rd (kJ K) E (eLv f)) := by
  subst hK
  refine imp_pi (pi_list he) fun σ H R ⟨U, ix, A, s, r, p⟩ => ⟨U, ix, A, s, r, Post.bind p fun w s1 x ix1 H1 r1 x1 z1 p1 => ?_⟩
  split at p1
  · rename_i hq
    cases q : readL s1 w with
    | none =>
      rw [q] at hq
      cases hq
    | some ws =>
      obtain ⟨a, xs, rfl, h1, h2⟩ := readL_ok r1 z1 q
      exact ⟨a, rfl, ⟨xs, .inl (.inl h1)⟩, p1.done r1 ⟨a, z1, rfl⟩⟩
  · exact p1.elim
theorem comp_impL {σ : L2.St} {H : Hp} {Q : VK} (q : rd (kL K) E (eCompL it i c e) σ H Q) : vLc (rd (kJ K) E it) (gName i) (rd (kB K) E0 c) (rd (kW K) E0 e) [i] σ H Q := by
  obtain ⟨U, ix, A, s, r, p⟩ := q
  refine ⟨U, ix, A, s, r, Post.bind p fun w0 s1 J ix1 H1 r1 x1 z1 p1 => ?_⟩
  obtain ⟨a0, wr0, rfl⟩ := z1
  obtain ⟨ws, hws, hz, p1⟩ : ∃ ws, readL s1 w0 = some ws ∧ ws.length ≤ 100000 ∧ Post (kL K) U ix1 A σ H1 E Q (match s1.sl[i]? with
    | none | some (.own _) => .no
    | some z => match loopCL w0 ws.length i c e ws.length { s1 with sl := s1.sl.set i .no } with
      | .ok r s2 => .ok r { s2 with sl := s2.sl.set i z }
      | _ => .no) := by
    revert p1
    cases readL s1 w0 with
    | none => exact fun p => p.elim
    | some ws =>
      simp only
      split
      · rename_i hl
        exact fun p => ⟨ws, rfl, hl, p⟩
      · exact fun p => p.elim
  unfold LcT
  refine ⟨ws.length, _, _, walk_live (a := a0), hz, fun D H2 nD f2 h2 => ?_⟩
  -- the slot
  obtain ⟨z, hsl, hzo, p1⟩ : ∃ z, s1.sl[i]? = some z ∧ (∀ ws, z ≠ .own ws) ∧ Post (kL K) U ix1 A σ H1 E Q (match loopCL w0 ws.length i c e ws.length { s1 with sl := s1.sl.set i .no } with
    | .ok r s2 => .ok r { s2 with sl := s2.sl.set i z }
    | _ => .no) := by
    revert p1
    cases s1.sl[i]? with
    | none => exact fun p => p.elim
    | some z =>
      cases z with
      | own ws => exact fun p => p.elim
      | no => exact fun p => ⟨_, rfl, (fun _ q => by cases q), p⟩
      | v w => exact fun p => ⟨_, rfl, (fun _ q => by cases q), p⟩
  obtain ⟨oz, az, hσ, hA, hSR⟩ := r1.slo.get hsl
  have haz : az = none := by
    cases z with
    | own ws => exact absurd rfl (hzo ws)
    | no => exact hSR
    | v w => exact hSR.1
  subst haz
  have hil : i < σ.length := (List.getElem?_eq_some_iff.mp hσ).1
  obtain ⟨r0, s2, hL⟩ : ∃ r0 s2, loopCL w0 ws.length i c e ws.length { s1 with sl := s1.sl.set i .no } = .ok r0 s2 := by
    revert p1
    cases loopCL w0 ws.length i c e ws.length { s1 with sl := s1.sl.set i .no } with
    | no => exact fun p => p.elim
    | er e m => exact fun p => p.elim
    | ok r0 s2 => exact fun _ => ⟨r0, s2, rfl⟩
  rw [hL] at p1
  have hAs : A.set i none = A := by
    apply List.ext_getElem?
    intro j
    by_cases e : j = i
    · subst e
      rw [List.getElem?_set_self (List.getElem?_eq_some_iff.mp hA).1, hA]
    · rw [List.getElem?_set_ne (Ne.symm e)]
  have hw0 : wipe σ [i] = σ.set i none := rfl
  let Pv : Nat → List V → Hp → Prop := fun k acc H3 => ∃ ix3 s3 accW rest, Rel K (D :: U) ix3 A (σ.set i none) H3 s3 ∧ H3 D = some (.lst acc) ∧ WRs K ix3 [] (avo (D :: U) ix3 A) H3 acc accW ∧ acc.length ≤ k ∧ loopCL w0 ws.length i c e (ws.length - k) s3 = .ok rest s2 ∧ accW ++ rest = r0 ∧
    Ext ix1 A H1 ix3 A H3
  refine ⟨Pv, ⟨ix1, _, [], r0, (r1.res nD f2 h2).slot i .no none hA rfl, h2, .nil, Nat.le_refl _, by simpa using hL, rfl, .of0 f2⟩, fun k acc H3 hk ⟨ix3, s3, accW, rest, h1, h2, h3, h4, h5, h6, h7⟩ => ⟨h4, h2, live_at h1 (WR.tr (Ext.trD h7 (vis_none nD)) _ _ wr0) h5⟩, ?_, ?_⟩
  · intro k x acc H3 H4 hk ⟨ix3, s3, accW, rest, h1, h2, h3, h4, h5, h6, h7⟩ y
    obtain ⟨rfl, hx⟩ := y
    have f4 : Fr [] H4 H4 := .refl _ _
    obtain ⟨wk, hfk, hxw, h5⟩ := live_step h1 (WR.tr (Ext.trD h7 (vis_none nD)) _ _ wr0) hk hx h5
    have rx := ((h1.tr0 f4).setV i hxw).1
    rw [hAs, List.set_set] at rx
    refine ⟨fun σ2 H5 => σ2 = (σ.set i (some x)) ∧ H5 = H4, ⟨by rw [hw0, List.set_set], rfl⟩, ?_⟩
    rintro σ2 H5 ⟨rfl, rfl⟩
    refine ⟨by simp [wipe, List.set_set], ?_⟩
    -- the test
    refine ⟨_, ⟨D :: U, ix3, A, _, rx, ?_⟩, fun _ _ q => q⟩
    revert h5
    cases hc : c { s3 with sl := s3.sl.set i (.v wk) } with
    | no => exact fun h => by cases h
    | er e m => exact fun h => by cases h
    | ok b s4 =>
      intro h5 b' ix4 H4' r4 x4 e4
      cases e4
      have hD4 : H4' D = some (.lst acc) := x4.fr.atL (f4.at0 h2) (h1.un D List.mem_cons_self).1
      have x14 : Ext ix1 A H1 ix4 A H4' := (h7.trans (.of0 f4)).trans x4
      have w4 : WRs K ix4 [] (avo (D :: U) ix4 A) H4' acc accW := WRs.tr x4.tr _ _ (WRs.tr (Tr.fr f4) _ _ h3)
      have hA4 : A[i]? = some none := hA
      cases b with
      | false =>
        rw [if_neg Bool.false_ne_true]
        have r5 := r4.slot i .no none hA rfl
        rw [List.set_set] at r5
        exact ⟨ix4, _, accW, rest, r5, hD4, w4, by omega, h5, h6, x14⟩
      | true =>
        rw [if_pos rfl]
        refine ⟨_, ⟨D :: U, ix4, A, _, r4, ?_⟩, fun _ _ q => q⟩
        dsimp only at h5
        revert h5
        cases he : e s4 with
        | no => exact fun h => by cases h
        | er e m => exact fun h => by cases h
        | ok w s5 =>
          intro h5 v ix5 H5 r5 x5 w5
          simp only at h5
          split at h5
          · rename_i hf
            split at h5
            · rename_i rest' s6 hrest
              cases h5
              have hD5 : H5 D = some (.lst acc) := x5.fr.atL hD4 (r4.un D List.mem_cons_self).1
              refine ⟨hD5, fun H6 f6 h6' => ?_⟩
              have r6 := r5.putU f6 h6'
              have r7 := r6.1.slot i .no none hA rfl
              rw [List.set_set] at r7
              refine ⟨ix5, _, accW ++ [w], rest', r7, h6', ?_, by rw [List.length_append]; simp; omega, hrest, by rw [← h6]; simp, (x14.trans x5).skip f6 (vis_none nD)⟩
              exact WRs.append (WRs.tr r6.2 _ _ (WRs.tr x5.tr _ _ w4)) (.cons (WR.free _ _ hf (WR.tr r6.2 _ _ w5)) .nil)
            · cases h5
          · cases h5
  · intro acc H3 ⟨ix3, s3, accW, rest, h1, h2, h3, h4, h5, h6, h7⟩
    rw [Nat.sub_self] at h5
    obtain ⟨rfl, rfl⟩ := live_end h5
    rw [List.append_nil] at h6
    subst h6
    have nU : D ∉ U := fun z => by
      obtain ⟨o, q⟩ := (r1.un D z).2
      rw [vis_none nD] at q
      cases q
    have hz3 : SR K ix3 (avo (D :: U) ix3 A) H3 oz none z := by
      cases z with
      | own ws => exact absurd rfl (hzo ws)
      | no => rfl
      | v w =>
        obtain ⟨_, v, e1, e2⟩ := hSR
        exact ⟨rfl, v, e1, WR.tr (Ext.trD h7 (vis_none nD)) _ _ e2⟩
    have rf := h1.slot i z oz hA hz3
    have hσs : (σ.set i none).set i oz = σ := by
      rw [List.set_set]
      apply List.ext_getElem?
      intro j
      by_cases e : j = i
      · subst e
        rw [List.getElem?_set_self hil, hσ]
      · rw [List.getElem?_set_ne (Ne.symm e)]
    rw [hσs] at rf
    exact p1 (.ref D) ix3 H3 (Rel.let (U := [D]) rf) h7 ⟨D, acc, rfl, vis_none nD, nU, h2, rf, WRs.lift _ _ h3⟩
variable {elt iter : Expr} {ifs : List Expr} {scope : Scope} {x : Str} {pos : Pos}
theorem f_compL (hc : X.calm = true) (hN : X.N.Nodup) (hi : PI X tg iter (rd (kJ K) E it)) (ok : BlkOk X.N X.env.scope scope [(x, i)])
    (hg : ∀ (s : Shared) (H : Hp) (C : Addr) (cl : List (Str × Addr)) (fp : List Addr), PG (X.blk s H scope (compEnvC scope cl C X.env) fp) tg (gName i))
    (ht : ∀ (s : Shared) (H : Hp) (C : Addr) (cl : List (Str × Addr)) (fp : List Addr), PTs (X.blk s H scope (compEnvC scope cl C X.env) fp) ifs (rd (kB K) E0 c))
    (he : ∀ (s : Shared) (H : Hp) (C : Addr) (cl : List (Str × Addr)) (fp : List Addr), PE (X.blk s H scope (compEnvC scope cl C X.env) fp) elt (rd (kW K) E0 e)) (hs : ∀ x, foldedSetIterable iter X.env x = pure x := by intro _; rfl) :
    PE X (.ListComp elt [⟨tg, iter, ifs, 0⟩] scope pos) (rd (kL K) E (eCompL it i c e)) := imp_te (l_comp hc hN hi ok hg ht he hs) fun _ _ _ q => comp_impL q
/-- a comprehension given to a name at once -/
theorem s_compOL {elt tg iter : Expr} {ifs : List Expr} {scope : Scope} {y x : Str} {py spos : Pos} {i j : Nat} {it : EF} {c : S → R S Bool} {e : EF} (hc : X.calm = true) (hN : X.N.Nodup) (hy : X.N[j]? = some y) (hyl : X.env.scope.names.lookup y = some .local) (hsw : swapsWith (.ListComp elt [⟨tg, iter, ifs, 0⟩] scope pos) (some (.Name y py)) spos.line X.env = pure true) (hi : PI X tg iter (rd (kJ K) E it)) (ok : BlkOk X.N X.env.scope scope [(x, i)])
    (hg : ∀ (s : Shared) (H : Hp) (C : Addr) (cl : List (Str × Addr)) (fp : List Addr), PG (X.blk s H scope (compEnvC scope cl C X.env) fp) tg (gName i))
    (ht : ∀ (s : Shared) (H : Hp) (C : Addr) (cl : List (Str × Addr)) (fp : List Addr), PTs (X.blk s H scope (compEnvC scope cl C X.env) fp) ifs (rd (kB K) E0 c))
    (he : ∀ (s : Shared) (H : Hp) (C : Addr) (cl : List (Str × Addr)) (fp : List Addr), PE (X.blk s H scope (compEnvC scope cl C X.env) fp) elt (rd (kW K) E0 e)) (hs : ∀ x, foldedSetIterable iter X.env x = pure x := by intro _; rfl) :
    PS X (.Assign [.Name y py] (.ListComp elt [⟨tg, iter, ifs, 0⟩] scope pos) spos) (rdS K E (sOwn j (eCompL it i c e))) := s_own_of (s_comp hc hN hy hyl hsw hi ok hg ht he hs) fun _ _ _ q => comp_impL q
/-- .. as data -/
theorem s_compFL {elt tg iter : Expr} {ifs : List Expr} {scope : Scope} {y x : Str} {py spos : Pos} {i j : Nat} {it : EF} {c : S → R S Bool} {e : EF} (hc : X.calm = true) (hN : X.N.Nodup) (hy : X.N[j]? = some y) (hyl : X.env.scope.names.lookup y = some .local) (hsw : swapsWith (.ListComp elt [⟨tg, iter, ifs, 0⟩] scope pos) (some (.Name y py)) spos.line X.env = pure true) (hi : PI X tg iter (rd (kJ K) E it)) (ok : BlkOk X.N X.env.scope scope [(x, i)])
    (hg : ∀ (s : Shared) (H : Hp) (C : Addr) (cl : List (Str × Addr)) (fp : List Addr), PG (X.blk s H scope (compEnvC scope cl C X.env) fp) tg (gName i))
    (ht : ∀ (s : Shared) (H : Hp) (C : Addr) (cl : List (Str × Addr)) (fp : List Addr), PTs (X.blk s H scope (compEnvC scope cl C X.env) fp) ifs (rd (kB K) E0 c))
    (he : ∀ (s : Shared) (H : Hp) (C : Addr) (cl : List (Str × Addr)) (fp : List Addr), PE (X.blk s H scope (compEnvC scope cl C X.env) fp) elt (rd (kW K) E0 e)) (hs : ∀ x, foldedSetIterable iter X.env x = pure x := by intro _; rfl) :
    PS X (.Assign [.Name y py] (.ListComp elt [⟨tg, iter, ifs, 0⟩] scope pos) spos) (rdS K E (sSet j (eF (eCompL it i c e)))) := s_set_of (s_comp hc hN hy hyl hsw hi ok hg ht he hs) fun σ H Q ⟨U, ix, A, s, r, p⟩ => comp_impL
  ⟨U, ix, A, s, r, Post.bind p fun ws s1 x ix1 H1 r1 x1 z1 p1 => by
    obtain ⟨q, xs, rfl, h0, nu, hq, rq, hw⟩ := z1
    refine p1.done r1 (.mkL hq (fun z => ?_) (WRs.tr trU _ _ hw))
    rcases List.mem_append.mp z with z | z
    · exact nu z
    · exact (rq.un q List.mem_cons_self).1 z⟩
end
section
variable {sl : List Sl} {m : M} {s : S} {it : EF} {i n : Nat} {c : S → R S Bool} {e f : EF} {w : W} {ws r : List W}
def kCL2 (i : Nat) (w : W) (ws : List W) (c : S → R S Bool) (e : EF) (s1 : S) : Option Sl → R S (List W)
  | none | some (.own _) => .no
  | some z => match loopCL w ws.length i c e ws.length { s1 with sl := s1.sl.set i .no } with
    | .ok r s2 => .ok r { s2 with sl := s2.sl.set i z }
    | _ => .no
def kCL1 (i : Nat) (w : W) (c : S → R S Bool) (e : EF) (s1 : S) : Option (List W) → R S (List W)
  | some ws => if ws.length ≤ 100000 then kCL2 i w ws c e s1 (s1.sl[i]?) else .no
  | none => .no
def kCL0 (i : Nat) (c : S → R S Bool) (e : EF) (r : R S W) : R S (List W) := r.bind fun w s1 => kCL1 i w c e s1 (readL s1 w)
theorem y_compL : eCompL it i c e s = kCL0 i c e (it s) := by
  unfold eCompL kCL0
  congr 1
  all_goals
    funext w s1
    cases readL s1 w with
    | none => rfl
    | some ws =>
      simp only [kCL1]
      split
      · cases s1.sl[i]? with
        | none => rfl
        | some z => cases z <;> rfl
      · rfl
def kLv (r : R S W) : R S W := r.bind fun w s => if (readL s w).isSome = true then .ok w s else .no
theorem y_lv : eLv f s = kLv (f s) := (rfl)
def kLv2 (w : W) (s : S) : Option (List W) → R S W
  | some _ => .ok w s
  | none => .no
theorem y_kLv : kLv (.ok w ⟨sl, m⟩) = kLv2 w ⟨sl, m⟩ (readL ⟨sl, m⟩ w) := by
  unfold kLv kLv2
  simp only [R.bind]
  cases readL ⟨sl, m⟩ w <;> rfl
theorem y_kLv2 : kLv2 w s (some ws) = .ok w s := (rfl)
theorem y_kCL0 : kCL0 i c e (.ok w ⟨sl, m⟩) = kCL1 i w c e ⟨sl, m⟩ (readL ⟨sl, m⟩ w) := (rfl)
theorem y_kCL1 (h : ws.length ≤ 100000) : kCL1 i w c e ⟨sl, m⟩ (some ws) = kCL2 i w ws c e ⟨sl, m⟩ (sl[i]?) := by
  show (if ws.length ≤ 100000 then kCL2 i w ws c e ⟨sl, m⟩ (sl[i]?) else .no) = _
  rw [if_pos h]
def kCL3 (i : Nat) (z : Sl) : R S (List W) → R S (List W)
  | .ok r s2 => .ok r { s2 with sl := s2.sl.set i z }
  | _ => .no
theorem y_kCL2n : kCL2 i w ws c e ⟨sl, m⟩ (some .no) = kCL3 i .no (loopCL w ws.length i c e ws.length ⟨sl.set i .no, m⟩) := by
  unfold kCL2 kCL3
  simp only
  all_goals cases loopCL w ws.length i c e ws.length ⟨sl.set i .no, m⟩ <;> rfl
theorem y_kCL2v {v : W} : kCL2 i w ws c e ⟨sl, m⟩ (some (.v v)) = kCL3 i (.v v) (loopCL w ws.length i c e ws.length ⟨sl.set i .no, m⟩) := by
  unfold kCL2 kCL3
  simp only
  all_goals cases loopCL w ws.length i c e ws.length ⟨sl.set i .no, m⟩ <;> rfl
theorem y_kCL3 {z : Sl} : kCL3 i z (.ok r ⟨sl, m⟩) = .ok r ⟨sl.set i z, m⟩ := (rfl)
/-- where nothing is changed -/
theorem loopCL_pure {p : W → Bool} {f : W → W} (hsl : sl[i]? = some .no) (hr : readL ⟨sl, m⟩ w = some ws) (hc : ∀ x ∈ ws, free x = true ∧ c ⟨sl.set i (.v x), m⟩ = .ok (p x) ⟨sl.set i (.v x), m⟩) (he : ∀ x ∈ ws, p x = true → e ⟨sl.set i (.v x), m⟩ = .ok (f x) ⟨sl.set i (.v x), m⟩ ∧ free (f x) = true) :
    loopCL w ws.length i c e ws.length ⟨sl, m⟩ = .ok ((ws.filter p).map f) ⟨sl, m⟩ := by
  have hset : sl.set i .no = sl := set_no hsl
  have go : ∀ r, r ≤ ws.length → loopCL w ws.length i c e r ⟨sl, m⟩ = .ok (((ws.drop (ws.length - r)).filter p).map f) ⟨sl, m⟩ := fun r => by
    induction r with
    | zero =>
      intro _
      unfold loopCL
      rw [hr]
      simp
    | succ r ih =>
      intro hrl
      have ih := ih (by omega)
      have hlt : ws.length - (r + 1) < ws.length := by omega
      have hg : ws[ws.length - (r + 1)]? = some ws[ws.length - (r + 1)] := List.getElem?_eq_getElem hlt
      have hmem := List.getElem_mem hlt
      have hdr : ws.drop (ws.length - (r + 1)) = ws[ws.length - (r + 1)] :: ws.drop (ws.length - r) := by
        rw [List.drop_eq_getElem_cons hlt]
        congr 2
        omega
      rw [hdr]
      generalize ws[ws.length - (r + 1)] = x at hg hmem
      unfold loopCL
      rw [hr]
      simp only [if_true, hg]
      obtain ⟨h1, h2⟩ := hc x hmem
      rw [if_pos h1, h2]
      cases hp : p x with
      | false =>
        simp only [List.set_set, hset, ih, List.filter_cons, hp, Bool.false_eq_true, if_false]
      | true =>
        obtain ⟨h3, h4⟩ := he x hmem hp
        simp only [h3, h4, if_true, List.set_set, hset, ih, List.filter_cons, hp, List.map_cons]
  have := go ws.length (Nat.le_refl _)
  rw [Nat.sub_self, List.drop_zero] at this
  exact this
end
end FE

namespace KT
open PySem PySem.Spec PyProof.Rows L2
def top (i : Nat) : Stmt := PySem.Challenge.pw_keytape_k14_whole_by_other_signs.main.body.getD i (.Pass ⟨0, 0, 0, 0⟩)
abbrev s_BadKeys_init : Stmt := inClass (top 5) 0
abbrev s_BadTape_init : Stmt := inClass (top 12) 0
abbrev s_is_number : Stmt := top 21
abbrev s_are_signs : Stmt := top 22
abbrev s_is_name : Stmt := top 23
abbrev s_is_key : Stmt := top 24
abbrev s_need_key : Stmt := top 25
abbrev s_need_name : Stmt := top 26
abbrev s_need_keys : Stmt := top 27
abbrev s_need_text : Stmt := top 28
abbrev s_Player_init : Stmt := inClass (top 32) 0
abbrev s_Player_count : Stmt := inClass (top 32) 1
abbrev s_Player_key : Stmt := inClass (top 32) 2
abbrev s_Player_played : Stmt := inClass (top 32) 3
abbrev s_Player_once : Stmt := inClass (top 32) 4
abbrev s_Sheet_init : Stmt := inClass (top 35) 0
abbrev s_Sheet_copied : Stmt := inClass (top 35) 1
abbrev s_Sheet_here : Stmt := inClass (top 35) 2
abbrev s_Sheet_go : Stmt := inClass (top 35) 3
abbrev s_Sheet_lay : Stmt := inClass (top 35) 4
abbrev s_Sheet_do : Stmt := inClass (top 35) 5
abbrev s_Sheet_parted : Stmt := inClass (top 35) 6
abbrev s_Sheet_rubbed : Stmt := inClass (top 35) 7
abbrev s_Sheet_taken : Stmt := inClass (top 35) 8
abbrev s_Sheet_found : Stmt := inClass (top 35) 9
abbrev s_Sheet_moved : Stmt := inClass (top 35) 10
abbrev s_Editor_init : Stmt := inClass (top 37) 0
abbrev s_Editor_press : Stmt := inClass (top 37) 1
abbrev s_Editor_tape : Stmt := inClass (top 37) 2
abbrev s_Editor_tape_of : Stmt := inClass (top 37) 3
abbrev s_Editor_record : Stmt := inClass (top 37) 4
abbrev s_Editor_stop : Stmt := inClass (top 37) 5
abbrev s_Editor_hand : Stmt := inClass (top 37) 6
abbrev s_Editor_back : Stmt := inClass (top 37) 7
abbrev s_Editor_forth : Stmt := inClass (top 37) 8
abbrev s_Editor_stand : Stmt := inClass (top 37) 9
abbrev s_Editor_text : Stmt := inClass (top 37) 10
abbrev s_Editor_place : Stmt := inClass (top 37) 11
abbrev s_Editor_clip : Stmt := inClass (top 37) 12
abbrev s_law_mix : Stmt := top 39
abbrev s_law_next : Stmt := top 40
abbrev s_law_alike : Stmt := top 41
abbrev s_law_sign : Stmt := top 42
abbrev s_law_text : Stmt := top 43
abbrev s_law_single : Stmt := top 44
abbrev s_law_key : Stmt := top 45
abbrev s_law_tape : Stmt := top 46
abbrev s_law_tapes : Stmt := top 47
abbrev s_law_kind : Stmt := top 48
abbrev s_law_turned : Stmt := top 49
abbrev s_law : Stmt := top 50
/-! the head's data -/
def d_BadKeys_init : He.DefD := ⟨("BadKeys", some "__init__"), "__init__", "BadKeys.__init__", defArgs s_BadKeys_init, defBody s_BadKeys_init, defScope s_BadKeys_init, [], []⟩
def d_BadTape_init : He.DefD := ⟨("BadTape", some "__init__"), "__init__", "BadTape.__init__", defArgs s_BadTape_init, defBody s_BadTape_init, defScope s_BadTape_init, [], []⟩
def d_is_number : He.DefD := ⟨("is_number", none), "is_number", "is_number", defArgs s_is_number, defBody s_is_number, defScope s_is_number, [], []⟩
def d_are_signs : He.DefD := ⟨("are_signs", none), "are_signs", "are_signs", defArgs s_are_signs, defBody s_are_signs, defScope s_are_signs, [], []⟩
def d_is_name : He.DefD := ⟨("is_name", none), "is_name", "is_name", defArgs s_is_name, defBody s_is_name, defScope s_is_name, [], []⟩
def d_is_key : He.DefD := ⟨("is_key", none), "is_key", "is_key", defArgs s_is_key, defBody s_is_key, defScope s_is_key, [], []⟩
def d_need_key : He.DefD := ⟨("need_key", none), "need_key", "need_key", defArgs s_need_key, defBody s_need_key, defScope s_need_key, [], []⟩
def d_need_name : He.DefD := ⟨("need_name", none), "need_name", "need_name", defArgs s_need_name, defBody s_need_name, defScope s_need_name, [], []⟩
def d_need_keys : He.DefD := ⟨("need_keys", none), "need_keys", "need_keys", defArgs s_need_keys, defBody s_need_keys, defScope s_need_keys, [], []⟩
def d_need_text : He.DefD := ⟨("need_text", none), "need_text", "need_text", defArgs s_need_text, defBody s_need_text, defScope s_need_text, [], []⟩
def d_Player_init : He.DefD := ⟨("Player", some "__init__"), "__init__", "Player.__init__", defArgs s_Player_init, defBody s_Player_init, defScope s_Player_init, [], []⟩
def d_Player_count : He.DefD := ⟨("Player", some "count"), "count", "Player.count", defArgs s_Player_count, defBody s_Player_count, defScope s_Player_count, [], []⟩
def d_Player_key : He.DefD := ⟨("Player", some "key"), "key", "Player.key", defArgs s_Player_key, defBody s_Player_key, defScope s_Player_key, [], []⟩
def d_Player_played : He.DefD := ⟨("Player", some "played"), "played", "Player.played", defArgs s_Player_played, defBody s_Player_played, defScope s_Player_played, [], []⟩
def d_Player_once : He.DefD := ⟨("Player", some "once"), "once", "Player.once", defArgs s_Player_once, defBody s_Player_once, defScope s_Player_once, [], []⟩
def d_Sheet_init : He.DefD := ⟨("Sheet", some "__init__"), "__init__", "Sheet.__init__", defArgs s_Sheet_init, defBody s_Sheet_init, defScope s_Sheet_init, [], []⟩
def d_Sheet_copied : He.DefD := ⟨("Sheet", some "copied"), "copied", "Sheet.copied", defArgs s_Sheet_copied, defBody s_Sheet_copied, defScope s_Sheet_copied, [], []⟩
def d_Sheet_here : He.DefD := ⟨("Sheet", some "here"), "here", "Sheet.here", defArgs s_Sheet_here, defBody s_Sheet_here, defScope s_Sheet_here, [], []⟩
def d_Sheet_go : He.DefD := ⟨("Sheet", some "go"), "go", "Sheet.go", defArgs s_Sheet_go, defBody s_Sheet_go, defScope s_Sheet_go, [], []⟩
def d_Sheet_lay : He.DefD := ⟨("Sheet", some "lay"), "lay", "Sheet.lay", defArgs s_Sheet_lay, defBody s_Sheet_lay, defScope s_Sheet_lay, [], []⟩
def d_Sheet_do : He.DefD := ⟨("Sheet", some "do"), "do", "Sheet.do", defArgs s_Sheet_do, defBody s_Sheet_do, defScope s_Sheet_do, [], []⟩
def d_Sheet_parted : He.DefD := ⟨("Sheet", some "parted"), "parted", "Sheet.parted", defArgs s_Sheet_parted, defBody s_Sheet_parted, defScope s_Sheet_parted, [], []⟩
def d_Sheet_rubbed : He.DefD := ⟨("Sheet", some "rubbed"), "rubbed", "Sheet.rubbed", defArgs s_Sheet_rubbed, defBody s_Sheet_rubbed, defScope s_Sheet_rubbed, [], []⟩
def d_Sheet_taken : He.DefD := ⟨("Sheet", some "taken"), "taken", "Sheet.taken", defArgs s_Sheet_taken, defBody s_Sheet_taken, defScope s_Sheet_taken, [], []⟩
def d_Sheet_found : He.DefD := ⟨("Sheet", some "found"), "found", "Sheet.found", defArgs s_Sheet_found, defBody s_Sheet_found, defScope s_Sheet_found, [], []⟩
def d_Sheet_moved : He.DefD := ⟨("Sheet", some "moved"), "moved", "Sheet.moved", defArgs s_Sheet_moved, defBody s_Sheet_moved, defScope s_Sheet_moved, [], []⟩
def d_Editor_init : He.DefD := ⟨("Editor", some "__init__"), "__init__", "Editor.__init__", defArgs s_Editor_init, defBody s_Editor_init, defScope s_Editor_init, [], []⟩
def d_Editor_press : He.DefD := ⟨("Editor", some "press"), "press", "Editor.press", defArgs s_Editor_press, defBody s_Editor_press, defScope s_Editor_press, [], []⟩
def d_Editor_tape : He.DefD := ⟨("Editor", some "tape"), "tape", "Editor.tape", defArgs s_Editor_tape, defBody s_Editor_tape, defScope s_Editor_tape, [], []⟩
def d_Editor_tape_of : He.DefD := ⟨("Editor", some "tape_of"), "tape_of", "Editor.tape_of", defArgs s_Editor_tape_of, defBody s_Editor_tape_of, defScope s_Editor_tape_of, [], []⟩
def d_Editor_record : He.DefD := ⟨("Editor", some "record"), "record", "Editor.record", defArgs s_Editor_record, defBody s_Editor_record, defScope s_Editor_record, [], []⟩
def d_Editor_stop : He.DefD := ⟨("Editor", some "stop"), "stop", "Editor.stop", defArgs s_Editor_stop, defBody s_Editor_stop, defScope s_Editor_stop, [], []⟩
def d_Editor_hand : He.DefD := ⟨("Editor", some "hand"), "hand", "Editor.hand", defArgs s_Editor_hand, defBody s_Editor_hand, defScope s_Editor_hand, [], []⟩
def d_Editor_back : He.DefD := ⟨("Editor", some "back"), "back", "Editor.back", defArgs s_Editor_back, defBody s_Editor_back, defScope s_Editor_back, [], []⟩
def d_Editor_forth : He.DefD := ⟨("Editor", some "forth"), "forth", "Editor.forth", defArgs s_Editor_forth, defBody s_Editor_forth, defScope s_Editor_forth, [], []⟩
def d_Editor_stand : He.DefD := ⟨("Editor", some "stand"), "stand", "Editor.stand", defArgs s_Editor_stand, defBody s_Editor_stand, defScope s_Editor_stand, [], []⟩
def d_Editor_text : He.DefD := ⟨("Editor", some "text"), "text", "Editor.text", defArgs s_Editor_text, defBody s_Editor_text, defScope s_Editor_text, [], []⟩
def d_Editor_place : He.DefD := ⟨("Editor", some "place"), "place", "Editor.place", defArgs s_Editor_place, defBody s_Editor_place, defScope s_Editor_place, [], []⟩
def d_Editor_clip : He.DefD := ⟨("Editor", some "clip"), "clip", "Editor.clip", defArgs s_Editor_clip, defBody s_Editor_clip, defScope s_Editor_clip, [], []⟩
def d_law_mix : He.DefD := ⟨("_law_mix", none), "_law_mix", "_law_mix", defArgs s_law_mix, defBody s_law_mix, defScope s_law_mix, [], []⟩
def d_law_next : He.DefD := ⟨("_law_next", none), "_law_next", "_law_next", defArgs s_law_next, defBody s_law_next, defScope s_law_next, [], []⟩
def d_law_alike : He.DefD := ⟨("_law_alike", none), "_law_alike", "_law_alike", defArgs s_law_alike, defBody s_law_alike, defScope s_law_alike, [], []⟩
def d_law_sign : He.DefD := ⟨("_law_sign", none), "_law_sign", "_law_sign", defArgs s_law_sign, defBody s_law_sign, defScope s_law_sign, [], []⟩
def d_law_text : He.DefD := ⟨("_law_text", none), "_law_text", "_law_text", defArgs s_law_text, defBody s_law_text, defScope s_law_text, [], []⟩
def d_law_single : He.DefD := ⟨("_law_single", none), "_law_single", "_law_single", defArgs s_law_single, defBody s_law_single, defScope s_law_single, [], []⟩
def d_law_key : He.DefD := ⟨("_law_key", none), "_law_key", "_law_key", defArgs s_law_key, defBody s_law_key, defScope s_law_key, [], []⟩
def d_law_tape : He.DefD := ⟨("_law_tape", none), "_law_tape", "_law_tape", defArgs s_law_tape, defBody s_law_tape, defScope s_law_tape, [], []⟩
def d_law_tapes : He.DefD := ⟨("_law_tapes", none), "_law_tapes", "_law_tapes", defArgs s_law_tapes, defBody s_law_tapes, defScope s_law_tapes, [], []⟩
def d_law_kind : He.DefD := ⟨("_law_kind", none), "_law_kind", "_law_kind", defArgs s_law_kind, defBody s_law_kind, defScope s_law_kind, [], []⟩
def d_law_turned : He.DefD := ⟨("_law_turned", none), "_law_turned", "_law_turned", defArgs s_law_turned, defBody s_law_turned, defScope s_law_turned, [], []⟩
def d_law : He.DefD := ⟨("law", none), "law", "law", defArgs s_law, defBody s_law, defScope s_law, [], []⟩
def fn0 : List He.DefD := [d_BadKeys_init, d_BadTape_init, d_is_number, d_are_signs, d_is_name, d_is_key, d_need_key, d_need_name, d_need_keys, d_need_text, d_Player_init, d_Player_count, d_Player_key, d_Player_played, d_Player_once, d_Sheet_init, d_Sheet_copied, d_Sheet_here, d_Sheet_go, d_Sheet_lay, d_Sheet_do, d_Sheet_parted, d_Sheet_rubbed, d_Sheet_taken, d_Sheet_found, d_Sheet_moved, d_Editor_init, d_Editor_press, d_Editor_tape, d_Editor_tape_of]
def fn1 : List He.DefD := [d_Editor_record, d_Editor_stop, d_Editor_hand, d_Editor_back, d_Editor_forth, d_Editor_stand, d_Editor_text, d_Editor_place, d_Editor_clip, d_law_mix, d_law_next, d_law_alike, d_law_sign, d_law_text, d_law_single, d_law_key, d_law_tape, d_law_tapes, d_law_kind, d_law_turned, d_law]
def fn : List He.DefD := fn0 ++ fn1
def fa0 : List He.Fa := [.meth "BadKeys" "__init__", .meth "BadTape" "__init__", .glo "is_number", .glo "are_signs", .glo "is_name", .glo "is_key", .glo "need_key", .glo "need_name", .glo "need_keys", .glo "need_text", .meth "Player" "__init__", .meth "Player" "count", .meth "Player" "key", .meth "Player" "played", .meth "Player" "once", .meth "Sheet" "__init__", .meth "Sheet" "copied", .meth "Sheet" "here", .meth "Sheet" "go", .meth "Sheet" "lay", .meth "Sheet" "do", .meth "Sheet" "parted", .meth "Sheet" "rubbed", .meth "Sheet" "taken", .meth "Sheet" "found", .meth "Sheet" "moved", .meth "Editor" "__init__", .meth "Editor" "press", .meth "Editor" "tape", .meth "Editor" "tape_of"]
def fa1 : List He.Fa := [.meth "Editor" "record", .meth "Editor" "stop", .meth "Editor" "hand", .meth "Editor" "back", .meth "Editor" "forth", .meth "Editor" "stand", .meth "Editor" "text", .meth "Editor" "place", .meth "Editor" "clip", .glo "_law_mix", .glo "_law_next", .glo "_law_alike", .glo "_law_sign", .glo "_law_text", .glo "_law_single", .glo "_law_key", .glo "_law_tape", .glo "_law_tapes", .glo "_law_kind", .glo "_law_turned", .glo "law", .glo "TapeError", .exc "TapeError", .glo "BadText", .exc "BadText", .glo "BadKey", .exc "BadKey", .glo "BadKeys", .glo "BadName", .exc "BadName"]
def fa2 : List He.Fa := [.glo "BadNames", .exc "BadNames", .glo "BadNumbers", .exc "BadNumbers", .glo "Taping", .exc "Taping", .glo "NotTaping", .exc "NotTaping", .glo "TooLong", .exc "TooLong", .glo "BadTape", .glo "Player", .cls "Player", .mkr "Player", .noat "Player" "many", .noat "Player" "sheet", .noat "Player" "strokes", .noat "Player" "tapes", .glo "Sheet", .cls "Sheet", .mkr "Sheet", .noat "Sheet" "column", .noat "Sheet" "held", .noat "Sheet" "row", .noat "Sheet" "rows", .glo "Editor", .cls "Editor", .mkr "Editor", .noat "Editor" "future", .noat "Editor" "past"]
def fa3 : List He.Fa := [.noat "Editor" "sheet", .noat "Editor" "taped", .noat "Editor" "tapes", .noat "Editor" "taping", .int "MOST_ROWS" 12, .int "MOST_SIGNS" 60, .int "MOST_WORD" 4, .int "MOST_TIMES" 9, .int "MOST_KEYS" 30, .str "NAMES" "abcdefgh", .glo "BARE", .int "MOST_THINGS" 400, .int "MOST_DEEP" 20, .str "LETTERS" "abcdefghijklmnopqrstuvwxyz", .free "ValueError", .free "bool", .free "int", .free "isinstance", .free "len", .free "list", .free "max", .free "min", .free "range", .free "sorted", .free "str", .free "tuple"]
def fa : List He.Fa := fa0 ++ fa1 ++ fa2 ++ fa3
def tf : List He.Defn := [("law", none)]
def ex (K : PySem.W.Frag) : Bool := [KR.tupB K (He.ga K "BARE") ["break", "rub", "left", "right", "up", "down", "home", "end", "take", "lay"], FE.kndB K].all id
def names0 : List Str := ["_wall", "TapeError", "BadText", "BadKey", "BadKeys", "BadName", "BadNames", "BadNumbers", "Taping", "NotTaping", "TooLong", "BadTape", "MOST_ROWS", "MOST_SIGNS", "MOST_WORD", "MOST_TIMES", "MOST_KEYS", "NAMES", "BARE", "is_number", "are_signs", "is_name", "is_key", "need_key", "need_name", "need_keys", "need_text", "MOST_THINGS", "MOST_DEEP", "Player"]
def names1 : List Str := ["LETTERS", "Sheet", "Editor", "_law_mix", "_law_next", "_law_alike", "_law_sign", "_law_text", "_law_single", "_law_key", "_law_tape", "_law_tapes", "_law_kind", "_law_turned"]
def names : List Str := names0 ++ names1
abbrev R : PySem.W.OpenRow := PySem.W.OpenLaw.row PySem.Challenge.rw_keytape_k14_whole_by_other_signs
abbrev hk : PySem.W.Hook := He.hookX 4 fa fn [] tf ex
def ob (s : PySem.W.SharedT) : He.AlX := He.obsX 4 fa fn [] tf ex (HandSHeadRun.getT s)
theorem ob_eq (s : PySem.W.SharedT) : ob s = hk.obs s.abs := He.obsX_eq (HandSHeadRun.getT_eq s)
theorem run (w : World) : HandSHeadRun.RunEq R (PySem.W.view R.prog [50]) hk ob 20000 names w := by
  intro os
  kernel_rfl
end KT

namespace KT
open PySem PySem.Spec PyProof.Rows L2 KR
structure Tx (K : PySem.W.Frag) (mg : Str → Option Value) : Prop where
  hp : ∃ h : Heap, K.In h ∧ h.Ns mainGlobals mg
  c : He.SaysD fa fn K
  x : ex K = true
section
variable {K : PySem.W.Frag} {mg : Str → Option Value}
theorem Tx.m_BadKeys_init (T : Tx K mg) : Meth K (He.ga K "BadKeys") "__init__" (He.ma K (He.ga K "BadKeys") "__init__") := He.meth_ok (T.c.fact 0 (f := .meth "BadKeys" "__init__") rfl)
theorem Tx.m_BadTape_init (T : Tx K mg) : Meth K (He.ga K "BadTape") "__init__" (He.ma K (He.ga K "BadTape") "__init__") := He.meth_ok (T.c.fact 1 (f := .meth "BadTape" "__init__") rfl)
theorem Tx.n_is_number (T : Tx K mg) : mg "is_number" = some (.ref (He.ga K "is_number")) := by
  obtain ⟨h, X, G⟩ := T.hp
  exact He.glo_ok X G (T.c.fact 2 (f := .glo "is_number") rfl)
theorem Tx.n_are_signs (T : Tx K mg) : mg "are_signs" = some (.ref (He.ga K "are_signs")) := by
  obtain ⟨h, X, G⟩ := T.hp
  exact He.glo_ok X G (T.c.fact 3 (f := .glo "are_signs") rfl)
theorem Tx.n_is_name (T : Tx K mg) : mg "is_name" = some (.ref (He.ga K "is_name")) := by
  obtain ⟨h, X, G⟩ := T.hp
  exact He.glo_ok X G (T.c.fact 4 (f := .glo "is_name") rfl)
theorem Tx.n_is_key (T : Tx K mg) : mg "is_key" = some (.ref (He.ga K "is_key")) := by
  obtain ⟨h, X, G⟩ := T.hp
  exact He.glo_ok X G (T.c.fact 5 (f := .glo "is_key") rfl)
theorem Tx.n_need_key (T : Tx K mg) : mg "need_key" = some (.ref (He.ga K "need_key")) := by
  obtain ⟨h, X, G⟩ := T.hp
  exact He.glo_ok X G (T.c.fact 6 (f := .glo "need_key") rfl)
theorem Tx.n_need_name (T : Tx K mg) : mg "need_name" = some (.ref (He.ga K "need_name")) := by
  obtain ⟨h, X, G⟩ := T.hp
  exact He.glo_ok X G (T.c.fact 7 (f := .glo "need_name") rfl)
theorem Tx.n_need_keys (T : Tx K mg) : mg "need_keys" = some (.ref (He.ga K "need_keys")) := by
  obtain ⟨h, X, G⟩ := T.hp
  exact He.glo_ok X G (T.c.fact 8 (f := .glo "need_keys") rfl)
theorem Tx.n_need_text (T : Tx K mg) : mg "need_text" = some (.ref (He.ga K "need_text")) := by
  obtain ⟨h, X, G⟩ := T.hp
  exact He.glo_ok X G (T.c.fact 9 (f := .glo "need_text") rfl)
theorem Tx.m_Player_init (T : Tx K mg) : Meth K (He.ga K "Player") "__init__" (He.ma K (He.ga K "Player") "__init__") := He.meth_ok (T.c.fact 10 (f := .meth "Player" "__init__") rfl)
theorem Tx.m_Player_count (T : Tx K mg) : Meth K (He.ga K "Player") "count" (He.ma K (He.ga K "Player") "count") := He.meth_ok (T.c.fact 11 (f := .meth "Player" "count") rfl)
theorem Tx.m_Player_key (T : Tx K mg) : Meth K (He.ga K "Player") "key" (He.ma K (He.ga K "Player") "key") := He.meth_ok (T.c.fact 12 (f := .meth "Player" "key") rfl)
theorem Tx.m_Player_played (T : Tx K mg) : Meth K (He.ga K "Player") "played" (He.ma K (He.ga K "Player") "played") := He.meth_ok (T.c.fact 13 (f := .meth "Player" "played") rfl)
theorem Tx.m_Player_once (T : Tx K mg) : Meth K (He.ga K "Player") "once" (He.ma K (He.ga K "Player") "once") := He.meth_ok (T.c.fact 14 (f := .meth "Player" "once") rfl)
theorem Tx.m_Sheet_init (T : Tx K mg) : Meth K (He.ga K "Sheet") "__init__" (He.ma K (He.ga K "Sheet") "__init__") := He.meth_ok (T.c.fact 15 (f := .meth "Sheet" "__init__") rfl)
theorem Tx.m_Sheet_copied (T : Tx K mg) : Meth K (He.ga K "Sheet") "copied" (He.ma K (He.ga K "Sheet") "copied") := He.meth_ok (T.c.fact 16 (f := .meth "Sheet" "copied") rfl)
theorem Tx.m_Sheet_here (T : Tx K mg) : Meth K (He.ga K "Sheet") "here" (He.ma K (He.ga K "Sheet") "here") := He.meth_ok (T.c.fact 17 (f := .meth "Sheet" "here") rfl)
theorem Tx.m_Sheet_go (T : Tx K mg) : Meth K (He.ga K "Sheet") "go" (He.ma K (He.ga K "Sheet") "go") := He.meth_ok (T.c.fact 18 (f := .meth "Sheet" "go") rfl)
theorem Tx.m_Sheet_lay (T : Tx K mg) : Meth K (He.ga K "Sheet") "lay" (He.ma K (He.ga K "Sheet") "lay") := He.meth_ok (T.c.fact 19 (f := .meth "Sheet" "lay") rfl)
theorem Tx.m_Sheet_do (T : Tx K mg) : Meth K (He.ga K "Sheet") "do" (He.ma K (He.ga K "Sheet") "do") := He.meth_ok (T.c.fact 20 (f := .meth "Sheet" "do") rfl)
theorem Tx.m_Sheet_parted (T : Tx K mg) : Meth K (He.ga K "Sheet") "parted" (He.ma K (He.ga K "Sheet") "parted") := He.meth_ok (T.c.fact 21 (f := .meth "Sheet" "parted") rfl)
theorem Tx.m_Sheet_rubbed (T : Tx K mg) : Meth K (He.ga K "Sheet") "rubbed" (He.ma K (He.ga K "Sheet") "rubbed") := He.meth_ok (T.c.fact 22 (f := .meth "Sheet" "rubbed") rfl)
theorem Tx.m_Sheet_taken (T : Tx K mg) : Meth K (He.ga K "Sheet") "taken" (He.ma K (He.ga K "Sheet") "taken") := He.meth_ok (T.c.fact 23 (f := .meth "Sheet" "taken") rfl)
theorem Tx.m_Sheet_found (T : Tx K mg) : Meth K (He.ga K "Sheet") "found" (He.ma K (He.ga K "Sheet") "found") := He.meth_ok (T.c.fact 24 (f := .meth "Sheet" "found") rfl)
theorem Tx.m_Sheet_moved (T : Tx K mg) : Meth K (He.ga K "Sheet") "moved" (He.ma K (He.ga K "Sheet") "moved") := He.meth_ok (T.c.fact 25 (f := .meth "Sheet" "moved") rfl)
theorem Tx.m_Editor_init (T : Tx K mg) : Meth K (He.ga K "Editor") "__init__" (He.ma K (He.ga K "Editor") "__init__") := He.meth_ok (T.c.fact 26 (f := .meth "Editor" "__init__") rfl)
theorem Tx.m_Editor_press (T : Tx K mg) : Meth K (He.ga K "Editor") "press" (He.ma K (He.ga K "Editor") "press") := He.meth_ok (T.c.fact 27 (f := .meth "Editor" "press") rfl)
theorem Tx.m_Editor_tape (T : Tx K mg) : Meth K (He.ga K "Editor") "tape" (He.ma K (He.ga K "Editor") "tape") := He.meth_ok (T.c.fact 28 (f := .meth "Editor" "tape") rfl)
theorem Tx.m_Editor_tape_of (T : Tx K mg) : Meth K (He.ga K "Editor") "tape_of" (He.ma K (He.ga K "Editor") "tape_of") := He.meth_ok (T.c.fact 29 (f := .meth "Editor" "tape_of") rfl)
theorem Tx.m_Editor_record (T : Tx K mg) : Meth K (He.ga K "Editor") "record" (He.ma K (He.ga K "Editor") "record") := He.meth_ok (T.c.fact 30 (f := .meth "Editor" "record") rfl)
theorem Tx.m_Editor_stop (T : Tx K mg) : Meth K (He.ga K "Editor") "stop" (He.ma K (He.ga K "Editor") "stop") := He.meth_ok (T.c.fact 31 (f := .meth "Editor" "stop") rfl)
theorem Tx.m_Editor_hand (T : Tx K mg) : Meth K (He.ga K "Editor") "hand" (He.ma K (He.ga K "Editor") "hand") := He.meth_ok (T.c.fact 32 (f := .meth "Editor" "hand") rfl)
theorem Tx.m_Editor_back (T : Tx K mg) : Meth K (He.ga K "Editor") "back" (He.ma K (He.ga K "Editor") "back") := He.meth_ok (T.c.fact 33 (f := .meth "Editor" "back") rfl)
theorem Tx.m_Editor_forth (T : Tx K mg) : Meth K (He.ga K "Editor") "forth" (He.ma K (He.ga K "Editor") "forth") := He.meth_ok (T.c.fact 34 (f := .meth "Editor" "forth") rfl)
theorem Tx.m_Editor_stand (T : Tx K mg) : Meth K (He.ga K "Editor") "stand" (He.ma K (He.ga K "Editor") "stand") := He.meth_ok (T.c.fact 35 (f := .meth "Editor" "stand") rfl)
theorem Tx.m_Editor_text (T : Tx K mg) : Meth K (He.ga K "Editor") "text" (He.ma K (He.ga K "Editor") "text") := He.meth_ok (T.c.fact 36 (f := .meth "Editor" "text") rfl)
theorem Tx.m_Editor_place (T : Tx K mg) : Meth K (He.ga K "Editor") "place" (He.ma K (He.ga K "Editor") "place") := He.meth_ok (T.c.fact 37 (f := .meth "Editor" "place") rfl)
theorem Tx.m_Editor_clip (T : Tx K mg) : Meth K (He.ga K "Editor") "clip" (He.ma K (He.ga K "Editor") "clip") := He.meth_ok (T.c.fact 38 (f := .meth "Editor" "clip") rfl)
theorem Tx.n__law_mix (T : Tx K mg) : mg "_law_mix" = some (.ref (He.ga K "_law_mix")) := by
  obtain ⟨h, X, G⟩ := T.hp
  exact He.glo_ok X G (T.c.fact 39 (f := .glo "_law_mix") rfl)
theorem Tx.n__law_next (T : Tx K mg) : mg "_law_next" = some (.ref (He.ga K "_law_next")) := by
  obtain ⟨h, X, G⟩ := T.hp
  exact He.glo_ok X G (T.c.fact 40 (f := .glo "_law_next") rfl)
theorem Tx.n__law_alike (T : Tx K mg) : mg "_law_alike" = some (.ref (He.ga K "_law_alike")) := by
  obtain ⟨h, X, G⟩ := T.hp
  exact He.glo_ok X G (T.c.fact 41 (f := .glo "_law_alike") rfl)
theorem Tx.n__law_sign (T : Tx K mg) : mg "_law_sign" = some (.ref (He.ga K "_law_sign")) := by
  obtain ⟨h, X, G⟩ := T.hp
  exact He.glo_ok X G (T.c.fact 42 (f := .glo "_law_sign") rfl)
theorem Tx.n__law_text (T : Tx K mg) : mg "_law_text" = some (.ref (He.ga K "_law_text")) := by
  obtain ⟨h, X, G⟩ := T.hp
  exact He.glo_ok X G (T.c.fact 43 (f := .glo "_law_text") rfl)
theorem Tx.n__law_single (T : Tx K mg) : mg "_law_single" = some (.ref (He.ga K "_law_single")) := by
  obtain ⟨h, X, G⟩ := T.hp
  exact He.glo_ok X G (T.c.fact 44 (f := .glo "_law_single") rfl)
theorem Tx.n__law_key (T : Tx K mg) : mg "_law_key" = some (.ref (He.ga K "_law_key")) := by
  obtain ⟨h, X, G⟩ := T.hp
  exact He.glo_ok X G (T.c.fact 45 (f := .glo "_law_key") rfl)
theorem Tx.n__law_tape (T : Tx K mg) : mg "_law_tape" = some (.ref (He.ga K "_law_tape")) := by
  obtain ⟨h, X, G⟩ := T.hp
  exact He.glo_ok X G (T.c.fact 46 (f := .glo "_law_tape") rfl)
theorem Tx.n__law_tapes (T : Tx K mg) : mg "_law_tapes" = some (.ref (He.ga K "_law_tapes")) := by
  obtain ⟨h, X, G⟩ := T.hp
  exact He.glo_ok X G (T.c.fact 47 (f := .glo "_law_tapes") rfl)
theorem Tx.n__law_kind (T : Tx K mg) : mg "_law_kind" = some (.ref (He.ga K "_law_kind")) := by
  obtain ⟨h, X, G⟩ := T.hp
  exact He.glo_ok X G (T.c.fact 48 (f := .glo "_law_kind") rfl)
theorem Tx.n__law_turned (T : Tx K mg) : mg "_law_turned" = some (.ref (He.ga K "_law_turned")) := by
  obtain ⟨h, X, G⟩ := T.hp
  exact He.glo_ok X G (T.c.fact 49 (f := .glo "_law_turned") rfl)
theorem Tx.n_law (T : Tx K mg) : mg "law" = some (.ref (He.ga K "law")) := by
  obtain ⟨h, X, G⟩ := T.hp
  exact He.glo_ok X G (T.c.fact 50 (f := .glo "law") rfl)
theorem Tx.n_TapeError (T : Tx K mg) : mg "TapeError" = some (.ref (He.ga K "TapeError")) := by
  obtain ⟨h, X, G⟩ := T.hp
  exact He.glo_ok X G (T.c.fact 51 (f := .glo "TapeError") rfl)
theorem Tx.e_TapeError (T : Tx K mg) : PySem.W.excIn K (He.ga K "TapeError") He.veBase "ValueError.__new__" = true ∧ PySem.W.keepIn K (.ref (He.ga K "TapeError")) = true ∧ PySem.W.subIn K (.ref (He.ga K "TapeError")) (.type "BaseException") = some true ∧ PySem.W.typeIn K (.ref (He.ga K "TapeError")) = some (.type "type") := He.exc_ok (T.c.fact 52 (f := .exc "TapeError") rfl)
theorem Tx.n_BadText (T : Tx K mg) : mg "BadText" = some (.ref (He.ga K "BadText")) := by
  obtain ⟨h, X, G⟩ := T.hp
  exact He.glo_ok X G (T.c.fact 53 (f := .glo "BadText") rfl)
theorem Tx.e_BadText (T : Tx K mg) : PySem.W.excIn K (He.ga K "BadText") He.veBase "ValueError.__new__" = true ∧ PySem.W.keepIn K (.ref (He.ga K "BadText")) = true ∧ PySem.W.subIn K (.ref (He.ga K "BadText")) (.type "BaseException") = some true ∧ PySem.W.typeIn K (.ref (He.ga K "BadText")) = some (.type "type") := He.exc_ok (T.c.fact 54 (f := .exc "BadText") rfl)
theorem Tx.n_BadKey (T : Tx K mg) : mg "BadKey" = some (.ref (He.ga K "BadKey")) := by
  obtain ⟨h, X, G⟩ := T.hp
  exact He.glo_ok X G (T.c.fact 55 (f := .glo "BadKey") rfl)
theorem Tx.e_BadKey (T : Tx K mg) : PySem.W.excIn K (He.ga K "BadKey") He.veBase "ValueError.__new__" = true ∧ PySem.W.keepIn K (.ref (He.ga K "BadKey")) = true ∧ PySem.W.subIn K (.ref (He.ga K "BadKey")) (.type "BaseException") = some true ∧ PySem.W.typeIn K (.ref (He.ga K "BadKey")) = some (.type "type") := He.exc_ok (T.c.fact 56 (f := .exc "BadKey") rfl)
theorem Tx.n_BadKeys (T : Tx K mg) : mg "BadKeys" = some (.ref (He.ga K "BadKeys")) := by
  obtain ⟨h, X, G⟩ := T.hp
  exact He.glo_ok X G (T.c.fact 57 (f := .glo "BadKeys") rfl)
theorem Tx.n_BadName (T : Tx K mg) : mg "BadName" = some (.ref (He.ga K "BadName")) := by
  obtain ⟨h, X, G⟩ := T.hp
  exact He.glo_ok X G (T.c.fact 58 (f := .glo "BadName") rfl)
theorem Tx.e_BadName (T : Tx K mg) : PySem.W.excIn K (He.ga K "BadName") He.veBase "ValueError.__new__" = true ∧ PySem.W.keepIn K (.ref (He.ga K "BadName")) = true ∧ PySem.W.subIn K (.ref (He.ga K "BadName")) (.type "BaseException") = some true ∧ PySem.W.typeIn K (.ref (He.ga K "BadName")) = some (.type "type") := He.exc_ok (T.c.fact 59 (f := .exc "BadName") rfl)
theorem Tx.n_BadNames (T : Tx K mg) : mg "BadNames" = some (.ref (He.ga K "BadNames")) := by
  obtain ⟨h, X, G⟩ := T.hp
  exact He.glo_ok X G (T.c.fact 60 (f := .glo "BadNames") rfl)
theorem Tx.e_BadNames (T : Tx K mg) : PySem.W.excIn K (He.ga K "BadNames") He.veBase "ValueError.__new__" = true ∧ PySem.W.keepIn K (.ref (He.ga K "BadNames")) = true ∧ PySem.W.subIn K (.ref (He.ga K "BadNames")) (.type "BaseException") = some true ∧ PySem.W.typeIn K (.ref (He.ga K "BadNames")) = some (.type "type") := He.exc_ok (T.c.fact 61 (f := .exc "BadNames") rfl)
theorem Tx.n_BadNumbers (T : Tx K mg) : mg "BadNumbers" = some (.ref (He.ga K "BadNumbers")) := by
  obtain ⟨h, X, G⟩ := T.hp
  exact He.glo_ok X G (T.c.fact 62 (f := .glo "BadNumbers") rfl)
theorem Tx.e_BadNumbers (T : Tx K mg) : PySem.W.excIn K (He.ga K "BadNumbers") He.veBase "ValueError.__new__" = true ∧ PySem.W.keepIn K (.ref (He.ga K "BadNumbers")) = true ∧ PySem.W.subIn K (.ref (He.ga K "BadNumbers")) (.type "BaseException") = some true ∧ PySem.W.typeIn K (.ref (He.ga K "BadNumbers")) = some (.type "type") := He.exc_ok (T.c.fact 63 (f := .exc "BadNumbers") rfl)
theorem Tx.n_Taping (T : Tx K mg) : mg "Taping" = some (.ref (He.ga K "Taping")) := by
  obtain ⟨h, X, G⟩ := T.hp
  exact He.glo_ok X G (T.c.fact 64 (f := .glo "Taping") rfl)
theorem Tx.e_Taping (T : Tx K mg) : PySem.W.excIn K (He.ga K "Taping") He.veBase "ValueError.__new__" = true ∧ PySem.W.keepIn K (.ref (He.ga K "Taping")) = true ∧ PySem.W.subIn K (.ref (He.ga K "Taping")) (.type "BaseException") = some true ∧ PySem.W.typeIn K (.ref (He.ga K "Taping")) = some (.type "type") := He.exc_ok (T.c.fact 65 (f := .exc "Taping") rfl)
theorem Tx.n_NotTaping (T : Tx K mg) : mg "NotTaping" = some (.ref (He.ga K "NotTaping")) := by
  obtain ⟨h, X, G⟩ := T.hp
  exact He.glo_ok X G (T.c.fact 66 (f := .glo "NotTaping") rfl)
theorem Tx.e_NotTaping (T : Tx K mg) : PySem.W.excIn K (He.ga K "NotTaping") He.veBase "ValueError.__new__" = true ∧ PySem.W.keepIn K (.ref (He.ga K "NotTaping")) = true ∧ PySem.W.subIn K (.ref (He.ga K "NotTaping")) (.type "BaseException") = some true ∧ PySem.W.typeIn K (.ref (He.ga K "NotTaping")) = some (.type "type") := He.exc_ok (T.c.fact 67 (f := .exc "NotTaping") rfl)
theorem Tx.n_TooLong (T : Tx K mg) : mg "TooLong" = some (.ref (He.ga K "TooLong")) := by
  obtain ⟨h, X, G⟩ := T.hp
  exact He.glo_ok X G (T.c.fact 68 (f := .glo "TooLong") rfl)
theorem Tx.e_TooLong (T : Tx K mg) : PySem.W.excIn K (He.ga K "TooLong") He.veBase "ValueError.__new__" = true ∧ PySem.W.keepIn K (.ref (He.ga K "TooLong")) = true ∧ PySem.W.subIn K (.ref (He.ga K "TooLong")) (.type "BaseException") = some true ∧ PySem.W.typeIn K (.ref (He.ga K "TooLong")) = some (.type "type") := He.exc_ok (T.c.fact 69 (f := .exc "TooLong") rfl)
theorem Tx.n_BadTape (T : Tx K mg) : mg "BadTape" = some (.ref (He.ga K "BadTape")) := by
  obtain ⟨h, X, G⟩ := T.hp
  exact He.glo_ok X G (T.c.fact 70 (f := .glo "BadTape") rfl)
theorem Tx.n_Player (T : Tx K mg) : mg "Player" = some (.ref (He.ga K "Player")) := by
  obtain ⟨h, X, G⟩ := T.hp
  exact He.glo_ok X G (T.c.fact 71 (f := .glo "Player") rfl)
theorem Tx.c_Player (T : Tx K mg) : Cls K (He.ga K "Player") := He.cls_ok (T.c.fact 72 (f := .cls "Player") rfl)
theorem Tx.k_Player (T : Tx K mg) : Mk K (He.ga K "Player") (He.ma K (He.ga K "Player") "__init__") := He.mkr_ok (T.c.fact 73 (f := .mkr "Player") rfl)
theorem Tx.a_Player_many (T : Tx K mg) : NoAttr K (He.ga K "Player") "many" := He.noat_ok (T.c.fact 74 (f := .noat "Player" "many") rfl)
theorem Tx.a_Player_sheet (T : Tx K mg) : NoAttr K (He.ga K "Player") "sheet" := He.noat_ok (T.c.fact 75 (f := .noat "Player" "sheet") rfl)
theorem Tx.a_Player_strokes (T : Tx K mg) : NoAttr K (He.ga K "Player") "strokes" := He.noat_ok (T.c.fact 76 (f := .noat "Player" "strokes") rfl)
theorem Tx.a_Player_tapes (T : Tx K mg) : NoAttr K (He.ga K "Player") "tapes" := He.noat_ok (T.c.fact 77 (f := .noat "Player" "tapes") rfl)
theorem Tx.n_Sheet (T : Tx K mg) : mg "Sheet" = some (.ref (He.ga K "Sheet")) := by
  obtain ⟨h, X, G⟩ := T.hp
  exact He.glo_ok X G (T.c.fact 78 (f := .glo "Sheet") rfl)
theorem Tx.c_Sheet (T : Tx K mg) : Cls K (He.ga K "Sheet") := He.cls_ok (T.c.fact 79 (f := .cls "Sheet") rfl)
theorem Tx.k_Sheet (T : Tx K mg) : Mk K (He.ga K "Sheet") (He.ma K (He.ga K "Sheet") "__init__") := He.mkr_ok (T.c.fact 80 (f := .mkr "Sheet") rfl)
theorem Tx.a_Sheet_column (T : Tx K mg) : NoAttr K (He.ga K "Sheet") "column" := He.noat_ok (T.c.fact 81 (f := .noat "Sheet" "column") rfl)
theorem Tx.a_Sheet_held (T : Tx K mg) : NoAttr K (He.ga K "Sheet") "held" := He.noat_ok (T.c.fact 82 (f := .noat "Sheet" "held") rfl)
theorem Tx.a_Sheet_row (T : Tx K mg) : NoAttr K (He.ga K "Sheet") "row" := He.noat_ok (T.c.fact 83 (f := .noat "Sheet" "row") rfl)
theorem Tx.a_Sheet_rows (T : Tx K mg) : NoAttr K (He.ga K "Sheet") "rows" := He.noat_ok (T.c.fact 84 (f := .noat "Sheet" "rows") rfl)
theorem Tx.n_Editor (T : Tx K mg) : mg "Editor" = some (.ref (He.ga K "Editor")) := by
  obtain ⟨h, X, G⟩ := T.hp
  exact He.glo_ok X G (T.c.fact 85 (f := .glo "Editor") rfl)
theorem Tx.c_Editor (T : Tx K mg) : Cls K (He.ga K "Editor") := He.cls_ok (T.c.fact 86 (f := .cls "Editor") rfl)
theorem Tx.k_Editor (T : Tx K mg) : Mk K (He.ga K "Editor") (He.ma K (He.ga K "Editor") "__init__") := He.mkr_ok (T.c.fact 87 (f := .mkr "Editor") rfl)
theorem Tx.a_Editor_future (T : Tx K mg) : NoAttr K (He.ga K "Editor") "future" := He.noat_ok (T.c.fact 88 (f := .noat "Editor" "future") rfl)
theorem Tx.a_Editor_past (T : Tx K mg) : NoAttr K (He.ga K "Editor") "past" := He.noat_ok (T.c.fact 89 (f := .noat "Editor" "past") rfl)
theorem Tx.a_Editor_sheet (T : Tx K mg) : NoAttr K (He.ga K "Editor") "sheet" := He.noat_ok (T.c.fact 90 (f := .noat "Editor" "sheet") rfl)
theorem Tx.a_Editor_taped (T : Tx K mg) : NoAttr K (He.ga K "Editor") "taped" := He.noat_ok (T.c.fact 91 (f := .noat "Editor" "taped") rfl)
theorem Tx.a_Editor_tapes (T : Tx K mg) : NoAttr K (He.ga K "Editor") "tapes" := He.noat_ok (T.c.fact 92 (f := .noat "Editor" "tapes") rfl)
theorem Tx.a_Editor_taping (T : Tx K mg) : NoAttr K (He.ga K "Editor") "taping" := He.noat_ok (T.c.fact 93 (f := .noat "Editor" "taping") rfl)
theorem Tx.n_MOST_ROWS (T : Tx K mg) : ∃ t, mg "MOST_ROWS" = some (.int 12 t) := by
  obtain ⟨h, X, G⟩ := T.hp
  exact He.int_ok X G (T.c.fact 94 (f := .int "MOST_ROWS" 12) rfl)
theorem Tx.n_MOST_SIGNS (T : Tx K mg) : ∃ t, mg "MOST_SIGNS" = some (.int 60 t) := by
  obtain ⟨h, X, G⟩ := T.hp
  exact He.int_ok X G (T.c.fact 95 (f := .int "MOST_SIGNS" 60) rfl)
theorem Tx.n_MOST_WORD (T : Tx K mg) : ∃ t, mg "MOST_WORD" = some (.int 4 t) := by
  obtain ⟨h, X, G⟩ := T.hp
  exact He.int_ok X G (T.c.fact 96 (f := .int "MOST_WORD" 4) rfl)
theorem Tx.n_MOST_TIMES (T : Tx K mg) : ∃ t, mg "MOST_TIMES" = some (.int 9 t) := by
  obtain ⟨h, X, G⟩ := T.hp
  exact He.int_ok X G (T.c.fact 97 (f := .int "MOST_TIMES" 9) rfl)
theorem Tx.n_MOST_KEYS (T : Tx K mg) : ∃ t, mg "MOST_KEYS" = some (.int 30 t) := by
  obtain ⟨h, X, G⟩ := T.hp
  exact He.int_ok X G (T.c.fact 98 (f := .int "MOST_KEYS" 30) rfl)
theorem Tx.n_NAMES (T : Tx K mg) : ∃ t, mg "NAMES" = some (.str "abcdefgh" t) := by
  obtain ⟨h, X, G⟩ := T.hp
  exact He.str_ok X G (T.c.fact 99 (f := .str "NAMES" "abcdefgh") rfl)
theorem Tx.n_BARE (T : Tx K mg) : mg "BARE" = some (.ref (He.ga K "BARE")) := by
  obtain ⟨h, X, G⟩ := T.hp
  exact He.glo_ok X G (T.c.fact 100 (f := .glo "BARE") rfl)
theorem Tx.n_MOST_THINGS (T : Tx K mg) : ∃ t, mg "MOST_THINGS" = some (.int 400 t) := by
  obtain ⟨h, X, G⟩ := T.hp
  exact He.int_ok X G (T.c.fact 101 (f := .int "MOST_THINGS" 400) rfl)
theorem Tx.n_MOST_DEEP (T : Tx K mg) : ∃ t, mg "MOST_DEEP" = some (.int 20 t) := by
  obtain ⟨h, X, G⟩ := T.hp
  exact He.int_ok X G (T.c.fact 102 (f := .int "MOST_DEEP" 20) rfl)
theorem Tx.n_LETTERS (T : Tx K mg) : ∃ t, mg "LETTERS" = some (.str "abcdefghijklmnopqrstuvwxyz" t) := by
  obtain ⟨h, X, G⟩ := T.hp
  exact He.str_ok X G (T.c.fact 103 (f := .str "LETTERS" "abcdefghijklmnopqrstuvwxyz") rfl)
theorem Tx.n_ValueError (T : Tx K mg) : mg "ValueError" = none := by
  obtain ⟨h, X, G⟩ := T.hp
  exact He.free_ok X G (T.c.fact 104 (f := .free "ValueError") rfl)
theorem Tx.n_bool (T : Tx K mg) : mg "bool" = none := by
  obtain ⟨h, X, G⟩ := T.hp
  exact He.free_ok X G (T.c.fact 105 (f := .free "bool") rfl)
theorem Tx.n_int (T : Tx K mg) : mg "int" = none := by
  obtain ⟨h, X, G⟩ := T.hp
  exact He.free_ok X G (T.c.fact 106 (f := .free "int") rfl)
theorem Tx.n_isinstance (T : Tx K mg) : mg "isinstance" = none := by
  obtain ⟨h, X, G⟩ := T.hp
  exact He.free_ok X G (T.c.fact 107 (f := .free "isinstance") rfl)
theorem Tx.n_len (T : Tx K mg) : mg "len" = none := by
  obtain ⟨h, X, G⟩ := T.hp
  exact He.free_ok X G (T.c.fact 108 (f := .free "len") rfl)
theorem Tx.n_list (T : Tx K mg) : mg "list" = none := by
  obtain ⟨h, X, G⟩ := T.hp
  exact He.free_ok X G (T.c.fact 109 (f := .free "list") rfl)
theorem Tx.n_max (T : Tx K mg) : mg "max" = none := by
  obtain ⟨h, X, G⟩ := T.hp
  exact He.free_ok X G (T.c.fact 110 (f := .free "max") rfl)
theorem Tx.n_min (T : Tx K mg) : mg "min" = none := by
  obtain ⟨h, X, G⟩ := T.hp
  exact He.free_ok X G (T.c.fact 111 (f := .free "min") rfl)
theorem Tx.n_range (T : Tx K mg) : mg "range" = none := by
  obtain ⟨h, X, G⟩ := T.hp
  exact He.free_ok X G (T.c.fact 112 (f := .free "range") rfl)
theorem Tx.n_sorted (T : Tx K mg) : mg "sorted" = none := by
  obtain ⟨h, X, G⟩ := T.hp
  exact He.free_ok X G (T.c.fact 113 (f := .free "sorted") rfl)
theorem Tx.n_str (T : Tx K mg) : mg "str" = none := by
  obtain ⟨h, X, G⟩ := T.hp
  exact He.free_ok X G (T.c.fact 114 (f := .free "str") rfl)
theorem Tx.n_tuple (T : Tx K mg) : mg "tuple" = none := by
  obtain ⟨h, X, G⟩ := T.hp
  exact He.free_ok X G (T.c.fact 115 (f := .free "tuple") rfl)
theorem Tx.f_BadKeys_init (T : Tx K mg) : ∃ fd, FunD K d_BadKeys_init.name d_BadKeys_init.qual (defArgs s_BadKeys_init) (defBody s_BadKeys_init) (defScope s_BadKeys_init) [] [] (He.fAd K d_BadKeys_init.at_) fd := T.c.def_ 0 (d := d_BadKeys_init) rfl
theorem Tx.f_BadTape_init (T : Tx K mg) : ∃ fd, FunD K d_BadTape_init.name d_BadTape_init.qual (defArgs s_BadTape_init) (defBody s_BadTape_init) (defScope s_BadTape_init) [] [] (He.fAd K d_BadTape_init.at_) fd := T.c.def_ 1 (d := d_BadTape_init) rfl
theorem Tx.f_is_number (T : Tx K mg) : ∃ fd, FunD K d_is_number.name d_is_number.qual (defArgs s_is_number) (defBody s_is_number) (defScope s_is_number) [] [] (He.fAd K d_is_number.at_) fd := T.c.def_ 2 (d := d_is_number) rfl
theorem Tx.f_are_signs (T : Tx K mg) : ∃ fd, FunD K d_are_signs.name d_are_signs.qual (defArgs s_are_signs) (defBody s_are_signs) (defScope s_are_signs) [] [] (He.fAd K d_are_signs.at_) fd := T.c.def_ 3 (d := d_are_signs) rfl
theorem Tx.f_is_name (T : Tx K mg) : ∃ fd, FunD K d_is_name.name d_is_name.qual (defArgs s_is_name) (defBody s_is_name) (defScope s_is_name) [] [] (He.fAd K d_is_name.at_) fd := T.c.def_ 4 (d := d_is_name) rfl
theorem Tx.f_is_key (T : Tx K mg) : ∃ fd, FunD K d_is_key.name d_is_key.qual (defArgs s_is_key) (defBody s_is_key) (defScope s_is_key) [] [] (He.fAd K d_is_key.at_) fd := T.c.def_ 5 (d := d_is_key) rfl
theorem Tx.f_need_key (T : Tx K mg) : ∃ fd, FunD K d_need_key.name d_need_key.qual (defArgs s_need_key) (defBody s_need_key) (defScope s_need_key) [] [] (He.fAd K d_need_key.at_) fd := T.c.def_ 6 (d := d_need_key) rfl
theorem Tx.f_need_name (T : Tx K mg) : ∃ fd, FunD K d_need_name.name d_need_name.qual (defArgs s_need_name) (defBody s_need_name) (defScope s_need_name) [] [] (He.fAd K d_need_name.at_) fd := T.c.def_ 7 (d := d_need_name) rfl
theorem Tx.f_need_keys (T : Tx K mg) : ∃ fd, FunD K d_need_keys.name d_need_keys.qual (defArgs s_need_keys) (defBody s_need_keys) (defScope s_need_keys) [] [] (He.fAd K d_need_keys.at_) fd := T.c.def_ 8 (d := d_need_keys) rfl
theorem Tx.f_need_text (T : Tx K mg) : ∃ fd, FunD K d_need_text.name d_need_text.qual (defArgs s_need_text) (defBody s_need_text) (defScope s_need_text) [] [] (He.fAd K d_need_text.at_) fd := T.c.def_ 9 (d := d_need_text) rfl
theorem Tx.f_Player_init (T : Tx K mg) : ∃ fd, FunD K d_Player_init.name d_Player_init.qual (defArgs s_Player_init) (defBody s_Player_init) (defScope s_Player_init) [] [] (He.fAd K d_Player_init.at_) fd := T.c.def_ 10 (d := d_Player_init) rfl
theorem Tx.f_Player_count (T : Tx K mg) : ∃ fd, FunD K d_Player_count.name d_Player_count.qual (defArgs s_Player_count) (defBody s_Player_count) (defScope s_Player_count) [] [] (He.fAd K d_Player_count.at_) fd := T.c.def_ 11 (d := d_Player_count) rfl
theorem Tx.f_Player_key (T : Tx K mg) : ∃ fd, FunD K d_Player_key.name d_Player_key.qual (defArgs s_Player_key) (defBody s_Player_key) (defScope s_Player_key) [] [] (He.fAd K d_Player_key.at_) fd := T.c.def_ 12 (d := d_Player_key) rfl
theorem Tx.f_Player_played (T : Tx K mg) : ∃ fd, FunD K d_Player_played.name d_Player_played.qual (defArgs s_Player_played) (defBody s_Player_played) (defScope s_Player_played) [] [] (He.fAd K d_Player_played.at_) fd := T.c.def_ 13 (d := d_Player_played) rfl
theorem Tx.f_Player_once (T : Tx K mg) : ∃ fd, FunD K d_Player_once.name d_Player_once.qual (defArgs s_Player_once) (defBody s_Player_once) (defScope s_Player_once) [] [] (He.fAd K d_Player_once.at_) fd := T.c.def_ 14 (d := d_Player_once) rfl
theorem Tx.f_Sheet_init (T : Tx K mg) : ∃ fd, FunD K d_Sheet_init.name d_Sheet_init.qual (defArgs s_Sheet_init) (defBody s_Sheet_init) (defScope s_Sheet_init) [] [] (He.fAd K d_Sheet_init.at_) fd := T.c.def_ 15 (d := d_Sheet_init) rfl
theorem Tx.f_Sheet_copied (T : Tx K mg) : ∃ fd, FunD K d_Sheet_copied.name d_Sheet_copied.qual (defArgs s_Sheet_copied) (defBody s_Sheet_copied) (defScope s_Sheet_copied) [] [] (He.fAd K d_Sheet_copied.at_) fd := T.c.def_ 16 (d := d_Sheet_copied) rfl
theorem Tx.f_Sheet_here (T : Tx K mg) : ∃ fd, FunD K d_Sheet_here.name d_Sheet_here.qual (defArgs s_Sheet_here) (defBody s_Sheet_here) (defScope s_Sheet_here) [] [] (He.fAd K d_Sheet_here.at_) fd := T.c.def_ 17 (d := d_Sheet_here) rfl
theorem Tx.f_Sheet_go (T : Tx K mg) : ∃ fd, FunD K d_Sheet_go.name d_Sheet_go.qual (defArgs s_Sheet_go) (defBody s_Sheet_go) (defScope s_Sheet_go) [] [] (He.fAd K d_Sheet_go.at_) fd := T.c.def_ 18 (d := d_Sheet_go) rfl
theorem Tx.f_Sheet_lay (T : Tx K mg) : ∃ fd, FunD K d_Sheet_lay.name d_Sheet_lay.qual (defArgs s_Sheet_lay) (defBody s_Sheet_lay) (defScope s_Sheet_lay) [] [] (He.fAd K d_Sheet_lay.at_) fd := T.c.def_ 19 (d := d_Sheet_lay) rfl
theorem Tx.f_Sheet_do (T : Tx K mg) : ∃ fd, FunD K d_Sheet_do.name d_Sheet_do.qual (defArgs s_Sheet_do) (defBody s_Sheet_do) (defScope s_Sheet_do) [] [] (He.fAd K d_Sheet_do.at_) fd := T.c.def_ 20 (d := d_Sheet_do) rfl
theorem Tx.f_Sheet_parted (T : Tx K mg) : ∃ fd, FunD K d_Sheet_parted.name d_Sheet_parted.qual (defArgs s_Sheet_parted) (defBody s_Sheet_parted) (defScope s_Sheet_parted) [] [] (He.fAd K d_Sheet_parted.at_) fd := T.c.def_ 21 (d := d_Sheet_parted) rfl
theorem Tx.f_Sheet_rubbed (T : Tx K mg) : ∃ fd, FunD K d_Sheet_rubbed.name d_Sheet_rubbed.qual (defArgs s_Sheet_rubbed) (defBody s_Sheet_rubbed) (defScope s_Sheet_rubbed) [] [] (He.fAd K d_Sheet_rubbed.at_) fd := T.c.def_ 22 (d := d_Sheet_rubbed) rfl
theorem Tx.f_Sheet_taken (T : Tx K mg) : ∃ fd, FunD K d_Sheet_taken.name d_Sheet_taken.qual (defArgs s_Sheet_taken) (defBody s_Sheet_taken) (defScope s_Sheet_taken) [] [] (He.fAd K d_Sheet_taken.at_) fd := T.c.def_ 23 (d := d_Sheet_taken) rfl
theorem Tx.f_Sheet_found (T : Tx K mg) : ∃ fd, FunD K d_Sheet_found.name d_Sheet_found.qual (defArgs s_Sheet_found) (defBody s_Sheet_found) (defScope s_Sheet_found) [] [] (He.fAd K d_Sheet_found.at_) fd := T.c.def_ 24 (d := d_Sheet_found) rfl
theorem Tx.f_Sheet_moved (T : Tx K mg) : ∃ fd, FunD K d_Sheet_moved.name d_Sheet_moved.qual (defArgs s_Sheet_moved) (defBody s_Sheet_moved) (defScope s_Sheet_moved) [] [] (He.fAd K d_Sheet_moved.at_) fd := T.c.def_ 25 (d := d_Sheet_moved) rfl
theorem Tx.f_Editor_init (T : Tx K mg) : ∃ fd, FunD K d_Editor_init.name d_Editor_init.qual (defArgs s_Editor_init) (defBody s_Editor_init) (defScope s_Editor_init) [] [] (He.fAd K d_Editor_init.at_) fd := T.c.def_ 26 (d := d_Editor_init) rfl
theorem Tx.f_Editor_press (T : Tx K mg) : ∃ fd, FunD K d_Editor_press.name d_Editor_press.qual (defArgs s_Editor_press) (defBody s_Editor_press) (defScope s_Editor_press) [] [] (He.fAd K d_Editor_press.at_) fd := T.c.def_ 27 (d := d_Editor_press) rfl
theorem Tx.f_Editor_tape (T : Tx K mg) : ∃ fd, FunD K d_Editor_tape.name d_Editor_tape.qual (defArgs s_Editor_tape) (defBody s_Editor_tape) (defScope s_Editor_tape) [] [] (He.fAd K d_Editor_tape.at_) fd := T.c.def_ 28 (d := d_Editor_tape) rfl
theorem Tx.f_Editor_tape_of (T : Tx K mg) : ∃ fd, FunD K d_Editor_tape_of.name d_Editor_tape_of.qual (defArgs s_Editor_tape_of) (defBody s_Editor_tape_of) (defScope s_Editor_tape_of) [] [] (He.fAd K d_Editor_tape_of.at_) fd := T.c.def_ 29 (d := d_Editor_tape_of) rfl
theorem Tx.f_Editor_record (T : Tx K mg) : ∃ fd, FunD K d_Editor_record.name d_Editor_record.qual (defArgs s_Editor_record) (defBody s_Editor_record) (defScope s_Editor_record) [] [] (He.fAd K d_Editor_record.at_) fd := T.c.def_ 30 (d := d_Editor_record) rfl
theorem Tx.f_Editor_stop (T : Tx K mg) : ∃ fd, FunD K d_Editor_stop.name d_Editor_stop.qual (defArgs s_Editor_stop) (defBody s_Editor_stop) (defScope s_Editor_stop) [] [] (He.fAd K d_Editor_stop.at_) fd := T.c.def_ 31 (d := d_Editor_stop) rfl
theorem Tx.f_Editor_hand (T : Tx K mg) : ∃ fd, FunD K d_Editor_hand.name d_Editor_hand.qual (defArgs s_Editor_hand) (defBody s_Editor_hand) (defScope s_Editor_hand) [] [] (He.fAd K d_Editor_hand.at_) fd := T.c.def_ 32 (d := d_Editor_hand) rfl
theorem Tx.f_Editor_back (T : Tx K mg) : ∃ fd, FunD K d_Editor_back.name d_Editor_back.qual (defArgs s_Editor_back) (defBody s_Editor_back) (defScope s_Editor_back) [] [] (He.fAd K d_Editor_back.at_) fd := T.c.def_ 33 (d := d_Editor_back) rfl
theorem Tx.f_Editor_forth (T : Tx K mg) : ∃ fd, FunD K d_Editor_forth.name d_Editor_forth.qual (defArgs s_Editor_forth) (defBody s_Editor_forth) (defScope s_Editor_forth) [] [] (He.fAd K d_Editor_forth.at_) fd := T.c.def_ 34 (d := d_Editor_forth) rfl
theorem Tx.f_Editor_stand (T : Tx K mg) : ∃ fd, FunD K d_Editor_stand.name d_Editor_stand.qual (defArgs s_Editor_stand) (defBody s_Editor_stand) (defScope s_Editor_stand) [] [] (He.fAd K d_Editor_stand.at_) fd := T.c.def_ 35 (d := d_Editor_stand) rfl
theorem Tx.f_Editor_text (T : Tx K mg) : ∃ fd, FunD K d_Editor_text.name d_Editor_text.qual (defArgs s_Editor_text) (defBody s_Editor_text) (defScope s_Editor_text) [] [] (He.fAd K d_Editor_text.at_) fd := T.c.def_ 36 (d := d_Editor_text) rfl
theorem Tx.f_Editor_place (T : Tx K mg) : ∃ fd, FunD K d_Editor_place.name d_Editor_place.qual (defArgs s_Editor_place) (defBody s_Editor_place) (defScope s_Editor_place) [] [] (He.fAd K d_Editor_place.at_) fd := T.c.def_ 37 (d := d_Editor_place) rfl
theorem Tx.f_Editor_clip (T : Tx K mg) : ∃ fd, FunD K d_Editor_clip.name d_Editor_clip.qual (defArgs s_Editor_clip) (defBody s_Editor_clip) (defScope s_Editor_clip) [] [] (He.fAd K d_Editor_clip.at_) fd := T.c.def_ 38 (d := d_Editor_clip) rfl
theorem Tx.f_law_mix (T : Tx K mg) : ∃ fd, FunD K d_law_mix.name d_law_mix.qual (defArgs s_law_mix) (defBody s_law_mix) (defScope s_law_mix) [] [] (He.fAd K d_law_mix.at_) fd := T.c.def_ 39 (d := d_law_mix) rfl
theorem Tx.f_law_next (T : Tx K mg) : ∃ fd, FunD K d_law_next.name d_law_next.qual (defArgs s_law_next) (defBody s_law_next) (defScope s_law_next) [] [] (He.fAd K d_law_next.at_) fd := T.c.def_ 40 (d := d_law_next) rfl
theorem Tx.f_law_alike (T : Tx K mg) : ∃ fd, FunD K d_law_alike.name d_law_alike.qual (defArgs s_law_alike) (defBody s_law_alike) (defScope s_law_alike) [] [] (He.fAd K d_law_alike.at_) fd := T.c.def_ 41 (d := d_law_alike) rfl
theorem Tx.f_law_sign (T : Tx K mg) : ∃ fd, FunD K d_law_sign.name d_law_sign.qual (defArgs s_law_sign) (defBody s_law_sign) (defScope s_law_sign) [] [] (He.fAd K d_law_sign.at_) fd := T.c.def_ 42 (d := d_law_sign) rfl
theorem Tx.f_law_text (T : Tx K mg) : ∃ fd, FunD K d_law_text.name d_law_text.qual (defArgs s_law_text) (defBody s_law_text) (defScope s_law_text) [] [] (He.fAd K d_law_text.at_) fd := T.c.def_ 43 (d := d_law_text) rfl
theorem Tx.f_law_single (T : Tx K mg) : ∃ fd, FunD K d_law_single.name d_law_single.qual (defArgs s_law_single) (defBody s_law_single) (defScope s_law_single) [] [] (He.fAd K d_law_single.at_) fd := T.c.def_ 44 (d := d_law_single) rfl
theorem Tx.f_law_key (T : Tx K mg) : ∃ fd, FunD K d_law_key.name d_law_key.qual (defArgs s_law_key) (defBody s_law_key) (defScope s_law_key) [] [] (He.fAd K d_law_key.at_) fd := T.c.def_ 45 (d := d_law_key) rfl
theorem Tx.f_law_tape (T : Tx K mg) : ∃ fd, FunD K d_law_tape.name d_law_tape.qual (defArgs s_law_tape) (defBody s_law_tape) (defScope s_law_tape) [] [] (He.fAd K d_law_tape.at_) fd := T.c.def_ 46 (d := d_law_tape) rfl
theorem Tx.f_law_tapes (T : Tx K mg) : ∃ fd, FunD K d_law_tapes.name d_law_tapes.qual (defArgs s_law_tapes) (defBody s_law_tapes) (defScope s_law_tapes) [] [] (He.fAd K d_law_tapes.at_) fd := T.c.def_ 47 (d := d_law_tapes) rfl
theorem Tx.f_law_kind (T : Tx K mg) : ∃ fd, FunD K d_law_kind.name d_law_kind.qual (defArgs s_law_kind) (defBody s_law_kind) (defScope s_law_kind) [] [] (He.fAd K d_law_kind.at_) fd := T.c.def_ 48 (d := d_law_kind) rfl
theorem Tx.f_law_turned (T : Tx K mg) : ∃ fd, FunD K d_law_turned.name d_law_turned.qual (defArgs s_law_turned) (defBody s_law_turned) (defScope s_law_turned) [] [] (He.fAd K d_law_turned.at_) fd := T.c.def_ 49 (d := d_law_turned) rfl
theorem Tx.f_law (T : Tx K mg) : ∃ fd, FunD K d_law.name d_law.qual (defArgs s_law) (defBody s_law) (defScope s_law) [] [] (He.fAd K d_law.at_) fd := T.c.def_ 50 (d := d_law) rfl
theorem Tx.t_BARE (T : Tx K mg) (H : Hp) : SqT K H (He.ga K "BARE") ([("break" : Str), ("rub" : Str), ("left" : Str), ("right" : Str), ("up" : Str), ("down" : Str), ("home" : Str), ("end" : Str), ("take" : Str), ("lay" : Str)].map V.str) := tupB_ok (List.all_eq_true.mp T.x _ (List.mem_of_getElem? (i := 0) rfl)) H
theorem Tx.kd (T : Tx K mg) : FE.KdF K := FE.kdf_of (List.all_eq_true.mp T.x _ (List.mem_of_getElem? (i := 1) rfl))
end
end KT

namespace FE
open PySem L2
def B_is_number : SF :=
  (sRet (eAnd (eIsi (eV 0) "int") (eAnd (eUn eNot (eIsi (eV 0) "bool")) (eChain oLe oLe (eV 1) (eV 0) (eV 2)))))
def F_is_number : FF := fnF 3 3 B_is_number
def B_are_signs_1 : EF :=
  (eV 3)
def B_are_signs_2 : S → R S Bool :=
  (cNot (cB (eChain oLeS oLeS (eC (.str " ")) (eV 3) (eC (.str "~")))))
def B_are_signs : SF :=
  (sSeq (sIf (cOr (cNot (cB (eIsi (eV 0) "str"))) (cNot (cB (eChain oLe oLe (eV 1) (eB bLenS (aCons (eV 0) aNil)) (eV 2)))))
    (sRet (eC (.bool false)))
    sNx)
  (sRet (eBin (oNil false) (eF (eComp (eIt seqS (eV 0)) 3 B_are_signs_2 B_are_signs_1)) (eF (eLst aNil)))))
def F_are_signs : FF := fnF 4 3 B_are_signs
def B_is_name : SF :=
  (sRet (eAnd (eIsi (eV 0) "str") (eAnd (eBin (oEq false) (eB bLenS (aCons (eV 0) aNil)) (eC (.int 1))) (eBin (oInS false) (eV 0) (eC (.str "abcdefgh"))))))
def F_is_name : FF := fnF 1 1 B_is_name
def B_is_key : SF :=
  (sSeq (sIf (cOr (cNot (cB (eIsi (eV 0) "tuple"))) (cOr (cB (eBin (oNilT false) (eV 0) (eTup aNil))) (cNot (cB (eIsi (eBin oIxT (eV 0) (eC (.int 0))) "str")))))
    (sRet (eC (.bool false)))
    sNx)
  (sSeq (sIf (cB (eBin (oIn false) (eBin oIxT (eV 0) (eC (.int 0))) (eTup (aCons (eC (.str "put")) (aCons (eC (.str "find")) aNil)))))
    (sRet (eAnd (eBin (oEq false) (eB bLenT (aCons (eV 0) aNil)) (eC (.int 2))) (eCall 3 F_are_signs (aCons (eBin oIxT (eV 0) (eC (.int 1))) (aCons (eC (.int 1)) (aCons (eIf (cB (eBin (oEq false) (eBin oIxT (eV 0) (eC (.int 0))) (eC (.str "put")))) (eC (.int 1)) (eC (.int 4))) aNil))))))
    sNx)
  (sSeq (sIf (cB (eBin (oEq false) (eBin oIxT (eV 0) (eC (.int 0))) (eC (.str "play"))))
    (sRet (eAnd (eBin (oEq false) (eB bLenT (aCons (eV 0) aNil)) (eC (.int 3))) (eAnd (eCall 1 F_is_name (aCons (eBin oIxT (eV 0) (eC (.int 1))) aNil)) (eCall 3 F_is_number (aCons (eBin oIxT (eV 0) (eC (.int 2))) (aCons (eC (.int 1)) (aCons (eC (.int 9)) aNil)))))))
    sNx)
  (sSeq (sIf (cB (eBin (oEq false) (eBin oIxT (eV 0) (eC (.int 0))) (eC (.str "till"))))
    (sRet (eAnd (eBin (oEq false) (eB bLenT (aCons (eV 0) aNil)) (eC (.int 2))) (eCall 1 F_is_name (aCons (eBin oIxT (eV 0) (eC (.int 1))) aNil))))
    sNx)
  (sRet (eAnd (eBin (oEq false) (eB bLenT (aCons (eV 0) aNil)) (eC (.int 1))) (eBin (oIn false) (eBin oIxT (eV 0) (eC (.int 0))) (eC (.tuple ((["break", "rub", "left", "right", "up", "down", "home", "end", "take", "lay"] : List Str).map .str))))))))))
def F_is_key : FF := fnF 1 1 B_is_key
def B_need_key : SF :=
  (sIf (cNot (cB (eCall 1 F_is_key (aCons (eV 0) aNil))))
    (sRaise "BadKey")
    sNx)
def F_need_key : FF := fnF 1 1 B_need_key
def B_need_name : SF :=
  (sIf (cNot (cB (eCall 1 F_is_name (aCons (eV 0) aNil))))
    (sRaise "BadName")
    sNx)
def F_need_name : FF := fnF 1 1 B_need_name
def B_need_keys_1 : SF :=
  (sIf (cOr (cB (eBin oGe (eV 2) (eV 1))) (cNot (cB (eCall 1 F_is_key (aCons (eBin oIxT (eV 0) (eV 2)) aNil)))))
      sNo
      sNx)
def B_need_keys : SF :=
  (sSeq (sIf (cNot (cB (eIsi (eV 0) "tuple")))
    sNo
    sNx)
  (sFor (eRng1 (aCons (eB bLenT (aCons (eV 0) aNil)) aNil)) (gN 2)
    B_need_keys_1))
def F_need_keys : FF := fnF 3 2 B_need_keys
def B_need_text_1 : EF :=
  (eV 2)
def B_need_text_2 : S → R S Bool :=
  (cNot (cB (eCall 3 F_are_signs (aCons (eV 2) (aCons (eC (.int 0)) (aCons (eC (.int 60)) aNil))))))
def B_need_text : SF :=
  (sSeq (sSet 1 (eF (eSplit (eV 0) (eC (.str "\n")))))
  (sIf (cOr (cB (eBin oGt (eB bLenL (aCons (eV 1) aNil)) (eC (.int 12)))) (cB (eBin (oNil true) (eF (eComp (eIt seqL (eV 1)) 2 B_need_text_2 B_need_text_1)) (eF (eLst aNil)))))
    (sRaise "BadText")
    sNx))
def F_need_text : FF := fnF 3 1 B_need_text
def B_Sheet_init : SF :=
  (sSeq (sFld "Sheet" "rows" (eV 0) (eBx (eB bList (aCons (eV 1) aNil))))
  (sSeq (sFld "Sheet" "row" (eV 0) (eV 2))
  (sSeq (sFld "Sheet" "column" (eV 0) (eV 3))
  (sFld "Sheet" "held" (eV 0) (eV 4)))))
def F_Sheet_init : FF := fnF 5 5 B_Sheet_init
def B_Sheet_copied : SF :=
  (sRet (eMak "Sheet" 5 F_Sheet_init (aCons (eGet "Sheet" "rows" (eV 0)) (aCons (eGet "Sheet" "row" (eV 0)) (aCons (eGet "Sheet" "column" (eV 0)) (aCons (eGet "Sheet" "held" (eV 0)) aNil))))))
def F_Sheet_copied : FF := fnF 1 1 B_Sheet_copied
def B_Sheet_here : SF :=
  (sRet (eBin oIx (eGet "Sheet" "rows" (eV 0)) (eGet "Sheet" "row" (eV 0))))
def F_Sheet_here : FF := fnF 1 1 B_Sheet_here
def B_Sheet_go : SF :=
  (sSeq (sFld "Sheet" "row" (eV 0) (eV 1))
  (sSeq (sFld "Sheet" "column" (eV 0) (eV 2))
  (sRet (eC (.bool true)))))
def F_Sheet_go : FF := fnF 3 3 B_Sheet_go
def B_Sheet_lay : SF :=
  (sSeq (sSet 2 (eMet "Sheet" "here" 1 F_Sheet_here (eV 0) aNil))
  (sSeq (sIf (cB (eBin oGt (eBin oAdd (eB bLenS (aCons (eV 2) aNil)) (eB bLenS (aCons (eV 1) aNil))) (eC (.int 60))))
    (sRet (eC (.bool false)))
    sNx)
  (sSeq (sAsg (eBin oAddS (eBin oAddS (eSl slS (eV 2) xN (xS (eGet "Sheet" "column" (eV 0)))) (eV 1)) (eSl slS (eV 2) (xS (eGet "Sheet" "column" (eV 0))) xN)) (gIx (eGet "Sheet" "rows" (eV 0)) (eGet "Sheet" "row" (eV 0))))
  (sSeq (sFld "Sheet" "column" (eV 0) (eBin oAdd (eGet "Sheet" "column" (eV 0)) (eB bLenS (aCons (eV 1) aNil))))
  (sRet (eC (.bool true)))))))
def F_Sheet_lay : FF := fnF 3 2 B_Sheet_lay
def B_Sheet_parted : SF :=
  (sSeq (sSet 1 (eMet "Sheet" "here" 1 F_Sheet_here (eV 0) aNil))
  (sSeq (sIf (cB (eBin (oEq false) (eB bLenL (aCons (eGet "Sheet" "rows" (eV 0)) aNil)) (eC (.int 12))))
    (sRet (eC (.bool false)))
    sNx)
  (sSeq (sSl (eGet "Sheet" "rows" (eV 0)) (eGet "Sheet" "row" (eV 0)) (eBin oAdd (eGet "Sheet" "row" (eV 0)) (eC (.int 1))) (eLst (aCons (eSl slS (eV 1) xN (xS (eGet "Sheet" "column" (eV 0)))) (aCons (eSl slS (eV 1) (xS (eGet "Sheet" "column" (eV 0))) xN) aNil))))
  (sRet (eMet "Sheet" "go" 3 F_Sheet_go (eV 0) (aCons (eBin oAdd (eGet "Sheet" "row" (eV 0)) (eC (.int 1))) (aCons (eC (.int 0)) aNil)))))))
def F_Sheet_parted : FF := fnF 2 1 B_Sheet_parted
def B_Sheet_rubbed : SF :=
  (sSeq (sSet 1 (eMet "Sheet" "here" 1 F_Sheet_here (eV 0) aNil))
  (sSeq (sIf (cB (eBin oGt (eGet "Sheet" "column" (eV 0)) (eC (.int 0))))
    (sSeq (sAsg (eBin oAddS (eSl slS (eV 1) xN (xS (eBin oSub (eGet "Sheet" "column" (eV 0)) (eC (.int 1))))) (eSl slS (eV 1) (xS (eGet "Sheet" "column" (eV 0))) xN)) (gIx (eGet "Sheet" "rows" (eV 0)) (eGet "Sheet" "row" (eV 0))))
    (sRet (eMet "Sheet" "go" 3 F_Sheet_go (eV 0) (aCons (eGet "Sheet" "row" (eV 0)) (aCons (eBin oSub (eGet "Sheet" "column" (eV 0)) (eC (.int 1))) aNil)))))
    sNx)
  (sSeq (sIf (cOr (cB (eBin (oEq false) (eGet "Sheet" "row" (eV 0)) (eC (.int 0)))) (cB (eBin oGt (eBin oAdd (eB bLenS (aCons (eBin oIx (eGet "Sheet" "rows" (eV 0)) (eBin oSub (eGet "Sheet" "row" (eV 0)) (eC (.int 1)))) aNil)) (eB bLenS (aCons (eV 1) aNil))) (eC (.int 60)))))
    (sRet (eC (.bool false)))
    sNx)
  (sSeq (sSet 2 (eBin oIx (eGet "Sheet" "rows" (eV 0)) (eBin oSub (eGet "Sheet" "row" (eV 0)) (eC (.int 1)))))
  (sSeq (sSl (eGet "Sheet" "rows" (eV 0)) (eBin oSub (eGet "Sheet" "row" (eV 0)) (eC (.int 1))) (eBin oAdd (eGet "Sheet" "row" (eV 0)) (eC (.int 1))) (eLst (aCons (eBin oAddS (eV 2) (eV 1)) aNil)))
  (sRet (eMet "Sheet" "go" 3 F_Sheet_go (eV 0) (aCons (eBin oSub (eGet "Sheet" "row" (eV 0)) (eC (.int 1))) (aCons (eB bLenS (aCons (eV 2) aNil)) aNil)))))))))
def F_Sheet_rubbed : FF := fnF 3 1 B_Sheet_rubbed
def B_Sheet_taken_1 : SF :=
  (sSet 2 (eBin oAdd (eV 2) (eC (.int 1))))
def B_Sheet_taken_2 : S → R S Bool :=
  (cAnd (cB (eBin oLt (eV 2) (eB bLenS (aCons (eV 1) aNil)))) (cB (eBin (oInS false) (eBin oIxS (eV 1) (eV 2)) (eC (.str "abcdefghijklmnopqrstuvwxyz")))))
def B_Sheet_taken : SF :=
  (sSeq (sSet 1 (eMet "Sheet" "here" 1 F_Sheet_here (eV 0) aNil))
  (sSeq (sSet 2 (eGet "Sheet" "column" (eV 0)))
  (sSeq (sWh 1000 B_Sheet_taken_2 B_Sheet_taken_1)
  (sSeq (sIf (cB (eBin (oEq false) (eV 2) (eGet "Sheet" "column" (eV 0))))
    (sRet (eC (.bool false)))
    sNx)
  (sSeq (sFld "Sheet" "held" (eV 0) (eSl slS (eV 1) (xS (eGet "Sheet" "column" (eV 0))) (xS (eV 2))))
  (sSeq (sAsg (eBin oAddS (eSl slS (eV 1) xN (xS (eGet "Sheet" "column" (eV 0)))) (eSl slS (eV 1) (xS (eV 2)) xN)) (gIx (eGet "Sheet" "rows" (eV 0)) (eGet "Sheet" "row" (eV 0))))
  (sRet (eC (.bool true)))))))))
def F_Sheet_taken : FF := fnF 3 1 B_Sheet_taken
def B_Sheet_found_1 : SF :=
  (sSeq (sSet 4 (eFind (eBin oIx (eGet "Sheet" "rows" (eV 0)) (eV 3)) (aCons (eV 1) (aCons (eV 2) aNil))))
    (sSeq (sIf (cB (eBin oGe (eV 4) (eC (.int 0))))
      (sRet (eMet "Sheet" "go" 3 F_Sheet_go (eV 0) (aCons (eV 3) (aCons (eV 4) aNil))))
      sNx)
    (sSet 2 (eC (.int 0)))))
def B_Sheet_found : SF :=
  (sSeq (sSet 2 (eBin oAdd (eGet "Sheet" "column" (eV 0)) (eC (.int 1))))
  (sSeq (sFor (eRng2 (aCons (eGet "Sheet" "row" (eV 0)) (aCons (eB bLenL (aCons (eGet "Sheet" "rows" (eV 0)) aNil)) aNil))) (gN 3)
    B_Sheet_found_1)
  (sRet (eC (.bool false)))))
def F_Sheet_found : FF := fnF 5 2 B_Sheet_found
def B_Sheet_moved : SF :=
  (sSeq (sSet 2 (eMet "Sheet" "here" 1 F_Sheet_here (eV 0) aNil))
  (sSeq (sIf (cOr (cB (eBin (oEq false) (eV 1) (eC (.str "home")))) (cB (eBin (oEq false) (eV 1) (eC (.str "end")))))
    (sRet (eMet "Sheet" "go" 3 F_Sheet_go (eV 0) (aCons (eGet "Sheet" "row" (eV 0)) (aCons (eIf (cB (eBin (oEq false) (eV 1) (eC (.str "home")))) (eC (.int 0)) (eB bLenS (aCons (eV 2) aNil))) aNil))))
    sNx)
  (sSeq (sIf (cAnd (cB (eBin (oEq false) (eV 1) (eC (.str "left")))) (cB (eBin oGt (eGet "Sheet" "column" (eV 0)) (eC (.int 0)))))
    (sRet (eMet "Sheet" "go" 3 F_Sheet_go (eV 0) (aCons (eGet "Sheet" "row" (eV 0)) (aCons (eBin oSub (eGet "Sheet" "column" (eV 0)) (eC (.int 1))) aNil))))
    sNx)
  (sSeq (sIf (cAnd (cB (eBin (oEq false) (eV 1) (eC (.str "right")))) (cB (eBin oLt (eGet "Sheet" "column" (eV 0)) (eB bLenS (aCons (eV 2) aNil)))))
    (sRet (eMet "Sheet" "go" 3 F_Sheet_go (eV 0) (aCons (eGet "Sheet" "row" (eV 0)) (aCons (eBin oAdd (eGet "Sheet" "column" (eV 0)) (eC (.int 1))) aNil))))
    sNx)
  (sSeq (sSet 3 (eBin oAdd (eGet "Sheet" "row" (eV 0)) (eIf (cB (eBin (oIn false) (eV 1) (eTup (aCons (eC (.str "right")) (aCons (eC (.str "down")) aNil))))) (eC (.int 1)) (eUn oNeg (eC (.int 1))))))
  (sSeq (sIf (cNot (cB (eChain oLe oLt (eC (.int 0)) (eV 3) (eB bLenL (aCons (eGet "Sheet" "rows" (eV 0)) aNil)))))
    (sRet (eC (.bool false)))
    sNx)
  (sSeq (sIf (cB (eBin (oIn false) (eV 1) (eTup (aCons (eC (.str "left")) (aCons (eC (.str "right")) aNil)))))
    (sRet (eMet "Sheet" "go" 3 F_Sheet_go (eV 0) (aCons (eV 3) (aCons (eIf (cB (eBin (oEq false) (eV 1) (eC (.str "right")))) (eC (.int 0)) (eB bLenS (aCons (eBin oIx (eGet "Sheet" "rows" (eV 0)) (eV 3)) aNil))) aNil))))
    sNx)
  (sRet (eMet "Sheet" "go" 3 F_Sheet_go (eV 0) (aCons (eV 3) (aCons (eB bMin (aCons (eGet "Sheet" "column" (eV 0)) (aCons (eB bLenS (aCons (eBin oIx (eGet "Sheet" "rows" (eV 0)) (eV 3)) aNil)) aNil))) aNil)))))))))))
def F_Sheet_moved : FF := fnF 4 2 B_Sheet_moved
def B_Sheet_do : SF :=
  (sSeq (sSet 2 (eBin oIxT (eV 1) (eC (.int 0))))
  (sSeq (sIf (cB (eBin (oEq false) (eV 2) (eC (.str "put"))))
    (sRet (eMet "Sheet" "lay" 2 F_Sheet_lay (eV 0) (aCons (eBin oIxT (eV 1) (eC (.int 1))) aNil)))
    sNx)
  (sSeq (sIf (cB (eBin (oEq false) (eV 2) (eC (.str "lay"))))
    (sRet (eAnd (eBin (oEq true) (eGet "Sheet" "held" (eV 0)) (eC (.str ""))) (eMet "Sheet" "lay" 2 F_Sheet_lay (eV 0) (aCons (eGet "Sheet" "held" (eV 0)) aNil))))
    sNx)
  (sSeq (sIf (cB (eBin (oEq false) (eV 2) (eC (.str "break"))))
    (sRet (eMet "Sheet" "parted" 1 F_Sheet_parted (eV 0) aNil))
    sNx)
  (sSeq (sIf (cB (eBin (oEq false) (eV 2) (eC (.str "rub"))))
    (sRet (eMet "Sheet" "rubbed" 1 F_Sheet_rubbed (eV 0) aNil))
    sNx)
  (sSeq (sIf (cB (eBin (oEq false) (eV 2) (eC (.str "take"))))
    (sRet (eMet "Sheet" "taken" 1 F_Sheet_taken (eV 0) aNil))
    sNx)
  (sSeq (sIf (cB (eBin (oEq false) (eV 2) (eC (.str "find"))))
    (sRet (eMet "Sheet" "found" 2 F_Sheet_found (eV 0) (aCons (eBin oIxT (eV 1) (eC (.int 1))) aNil)))
    sNx)
  (sRet (eMet "Sheet" "moved" 2 F_Sheet_moved (eV 0) (aCons (eV 2) aNil))))))))))
def F_Sheet_do : FF := fnF 3 2 B_Sheet_do
def B_Player_init : SF :=
  (sSeq (sFld "Player" "sheet" (eV 0) (eV 1))
  (sSeq (sFld "Player" "tapes" (eV 0) (eV 2))
  (sSeq (sFld "Player" "many" (eV 0) (eC (.int 0)))
  (sFld "Player" "strokes" (eV 0) (eBx (eLst aNil))))))
def F_Player_init : FF := fnF 3 3 B_Player_init
def B_Player_count : SF :=
  (sSeq (sFld "Player" "many" (eV 0) (eBin oAdd (eGet "Player" "many" (eV 0)) (eC (.int 1))))
  (sIf (cB (eBin oGt (eGet "Player" "many" (eV 0)) (eC (.int 400))))
    (sRaise "TooLong")
    sNx))
def F_Player_count : FF := fnF 1 1 B_Player_count
def B_Player_once_1 (Fk : FF) : SF :=
  (sIf (cNot (cB (eMet "Player" "key" 3 Fk (eV 0) (aCons (eV 3) (aCons (eV 2) aNil)))))
      (sRet (eC (.bool false)))
      sNx)
def B_Player_once (Fk : FF) : SF :=
  (sSeq (sE (eMet "Player" "count" 1 F_Player_count (eV 0) aNil))
  (sSeq (sFor (eIt readT (eV 1)) (gN 3)
    (B_Player_once_1 Fk))
  (sRet (eC (.bool true)))))
def F_Player_once (Fk : FF) : FF := fnF 4 3 (B_Player_once Fk)
def B_Player_played_1 (Fo : FF) : SF :=
  sNx
def B_Player_played_2 (Fo : FF) : S → R S Bool :=
  (cB (eMet "Player" "once" 3 Fo (eV 0) (aCons (eV 3) (aCons (eV 2) aNil))))
def B_Player_played_3 (Fo : FF) : SF :=
  (sIf (cNot (cB (eMet "Player" "once" 3 Fo (eV 0) (aCons (eV 3) (aCons (eV 2) aNil)))))
      (sRet (eC (.bool false)))
      sNx)
def B_Player_played (Fo : FF) : SF :=
  (sSeq (sSet 3 (eDGet (eGet "Player" "tapes" (eV 0)) (eBin oIxT (eV 1) (eC (.int 1))) (eTup aNil)))
  (sSeq (sIf (cB (eBin (oEq false) (eBin oIxT (eV 1) (eC (.int 0))) (eC (.str "till"))))
    (sSeq (sWh 1000 (B_Player_played_2 Fo) (B_Player_played_1 Fo))
    (sRet (eC (.bool true))))
    sNx)
  (sSeq (sFor (eRng1 (aCons (eBin oIxT (eV 1) (eC (.int 2))) aNil)) (gN 4)
    (B_Player_played_3 Fo))
  (sRet (eC (.bool true))))))
def F_Player_played (Fo : FF) : FF := fnF 5 3 (B_Player_played Fo)
def B_Player_key (Fp : FF) : SF :=
  (sSeq (sE (eMet "Player" "count" 1 F_Player_count (eV 0) aNil))
  (sSeq (sIf (cB (eBin (oIn false) (eBin oIxT (eV 1) (eC (.int 0))) (eTup (aCons (eC (.str "play")) (aCons (eC (.str "till")) aNil)))))
    (sRet (eAnd (eBin oLt (eV 2) (eC (.int 20))) (eMet "Player" "played" 3 Fp (eV 0) (aCons (eV 1) (aCons (eBin oAdd (eV 2) (eC (.int 1))) aNil)))))
    sNx)
  (sSeq (sSet 3 (eMet "Sheet" "do" 2 F_Sheet_do (eGet "Player" "sheet" (eV 0)) (aCons (eV 1) aNil)))
  (sSeq (sIf (cB (eV 3))
    (sE (eLm mAppend (eGet "Player" "strokes" (eV 0)) (aCons (eV 1) aNil)))
    sNx)
  (sRet (eV 3))))))
def F_Player_key (Fp : FF) : FF := fnF 4 3 (B_Player_key Fp)
def F_Player_keyN : Nat → FF
  | 0 => fnF 3 3 sNo
  | n + 1 => F_Player_key (F_Player_played (F_Player_once (F_Player_keyN n)))
def B_Editor_init : SF :=
  (sSeq (sE (eCall 1 F_need_text (aCons (eV 1) aNil)))
  (sSeq (sFld "Editor" "sheet" (eV 0) (eMak "Sheet" 5 F_Sheet_init (aCons (eF (eSplit (eV 1) (eC (.str "\n")))) (aCons (eC (.int 0)) (aCons (eC (.int 0)) (aCons (eC (.str "")) aNil))))))
  (sSeq (sFld "Editor" "tapes" (eV 0) eDict0)
  (sSeq (sFld "Editor" "past" (eV 0) (eBx (eLst aNil)))
  (sSeq (sFld "Editor" "future" (eV 0) (eBx (eLst aNil)))
  (sSeq (sFld "Editor" "taping" (eV 0) (eC .none))
  (sFld "Editor" "taped" (eV 0) (eBx (eLst aNil)))))))))
def F_Editor_init : FF := fnF 2 2 B_Editor_init
def B_Editor_press : SF :=
  (sSeq (sE (eCall 1 F_need_key (aCons (eV 1) aNil)))
  (sSeq (sSet 2 (eMet "Sheet" "copied" 1 F_Sheet_copied (eGet "Editor" "sheet" (eV 0)) aNil))
  (sSeq (sSet 3 (eMet "Sheet" "copied" 1 F_Sheet_copied (eGet "Editor" "sheet" (eV 0)) aNil))
  (sSeq (sSet 4 (eMet "Player" "key" 3 (F_Player_keyN 22) (eMak "Player" 3 F_Player_init (aCons (eV 3) (aCons (eGet "Editor" "tapes" (eV 0)) aNil))) (aCons (eV 1) (aCons (eC (.int 0)) aNil))))
  (sSeq (sFld "Editor" "sheet" (eV 0) (eV 3))
  (sSeq (sIf (cB (eBin (oEqD true) (eGet "Sheet" "rows" (eV 3)) (eGet "Sheet" "rows" (eV 2))))
    (sSeq (sE (eLm mAppend (eGet "Editor" "past" (eV 0)) (aCons (eTup (aCons (eV 2) (aCons (eMet "Sheet" "copied" 1 F_Sheet_copied (eV 3) aNil) aNil))) aNil)))
    (sFld "Editor" "future" (eV 0) (eBx (eLst aNil))))
    sNx)
  (sSeq (sIf (cB (eBin (oIsN true) (eGet "Editor" "taping" (eV 0)) (eC .none)))
    (sE (eLm mAppend (eGet "Editor" "taped" (eV 0)) (aCons (eV 1) aNil)))
    sNx)
  (sRet (eV 4)))))))))
def F_Editor_press : FF := fnF 5 2 B_Editor_press
def B_Editor_tape : SF :=
  (sSeq (sE (eCall 1 F_need_name (aCons (eV 1) aNil)))
  (sSeq (sE (eCall 2 F_need_keys (aCons (eV 2) (aCons (eC (.int 30)) aNil))))
  (sDPut (eGet "Editor" "tapes" (eV 0)) (eV 1) (eV 2))))
def F_Editor_tape : FF := fnF 3 3 B_Editor_tape
def B_Editor_hand : SF :=
  (sSeq (sE (eCall 1 F_need_key (aCons (eV 1) aNil)))
  (sSeq (sSet 2 (eMak "Player" 3 F_Player_init (aCons (eMet "Sheet" "copied" 1 F_Sheet_copied (eGet "Editor" "sheet" (eV 0)) aNil) (aCons (eGet "Editor" "tapes" (eV 0)) aNil))))
  (sSeq (sE (eMet "Player" "key" 3 (F_Player_keyN 22) (eV 2) (aCons (eV 1) (aCons (eC (.int 0)) aNil))))
  (sRet (eGet "Player" "strokes" (eV 2))))))
def F_Editor_hand : FF := fnF 3 2 B_Editor_hand
def B_Editor_text : SF :=
  (sRet (eJoin (eC (.str "\n")) (eGet "Sheet" "rows" (eGet "Editor" "sheet" (eV 0)))))
def F_Editor_text : FF := fnF 1 1 B_Editor_text
def B_Editor_place : SF :=
  (sRet (eTup (aCons (eGet "Sheet" "row" (eGet "Editor" "sheet" (eV 0))) (aCons (eGet "Sheet" "column" (eGet "Editor" "sheet" (eV 0))) aNil))))
def F_Editor_place : FF := fnF 1 1 B_Editor_place
def B_Editor_clip : SF :=
  (sRet (eGet "Sheet" "held" (eGet "Editor" "sheet" (eV 0))))
def F_Editor_clip : FF := fnF 1 1 B_Editor_clip
def B_law_mix_1 : SF :=
  (sSet 2 (eBin oMod (eBin oAdd (eBin oAdd (eBin oMul (eV 2) (eC (.int 48271))) (eBin oMod (eV 3) (eC (.int 2147483629)))) (eC (.int 1))) (eC (.int 2147483647))))
def B_law_mix : SF :=
  (sSeq (sSet 2 (eV 1))
  (sSeq (sFor (eIt seqL (eV 0)) (gN 3)
    B_law_mix_1)
  (sRet (eBx (eLst (aCons (eV 2) (aCons (eBx (eB bList (aCons (eV 0) aNil))) (aCons (eC (.int 0)) aNil))))))))
def F_law_mix : FF := fnF 4 2 B_law_mix
def B_law_next : SF :=
  (sSeq (sSet 2 (eBin oMod (eBin oIx (eV 0) (eC (.int 2))) (eB bMax (aCons (eC (.int 1)) (aCons (eB bLenL (aCons (eBin oIx (eV 0) (eC (.int 1))) aNil)) aNil)))))
  (sSeq (sSet 3 (eIf (cB (eBin (oNil true) (eBin oIx (eV 0) (eC (.int 1))) (eF (eLst aNil)))) (eBin oIx (eBin oIx (eV 0) (eC (.int 1))) (eV 2)) (eC (.int 0))))
  (sSeq (sIf (cB (eBin oGe (eV 3) (eBin oPow (eC (.int 10)) (eC (.int 18)))))
    (sSeq (sAsg (eBin oDiv (eV 3) (eV 1)) (gIx (eBin oIx (eV 0) (eC (.int 1))) (eV 2)))
    (sRet (eBin oMod (eV 3) (eV 1))))
    sNx)
  (sSeq (sAsg (eBin oMod (eBin oAdd (eBin oAdd (eBin oMul (eBin oIx (eV 0) (eC (.int 0))) (eC (.int 48271))) (eBin oMul (eV 3) (eC (.int 69621)))) (eC (.int 11))) (eC (.int 2147483647))) (gIx (eV 0) (eC (.int 0))))
  (sSeq (sAsg (eBin oAdd (eBin oIx (eV 0) (eC (.int 2))) (eC (.int 1))) (gIx (eV 0) (eC (.int 2))))
  (sRet (eBin oMod (eBin oDiv (eBin oIx (eV 0) (eC (.int 0))) (eC (.int 7))) (eV 1))))))))
def F_law_next : FF := fnF 4 2 B_law_next
def B_law_sign : SF :=
  (sSeq (sSet 1 (eC (.str " !\"#$&'()*+,-./0123456789:;<=>?@ABCDEFGHIJKLMNOPQRSTUVWXYZ[\\]^_`abcdefghijklmnopqrstuvwxyz{|}~")))
  (sRet (eBin oIx (eF (eLst (aCons (eBin oIxS (eC (.str "aab, ")) (eCall 2 F_law_next (aCons (eV 0) (aCons (eC (.int 5)) aNil)))) (aCons (eBin oIxS (eV 1) (eCall 2 F_law_next (aCons (eV 0) (aCons (eB bLenS (aCons (eV 1) aNil)) aNil)))) aNil)))) (eBin oDiv (eCall 2 F_law_next (aCons (eV 0) (aCons (eC (.int 4)) aNil))) (eC (.int 3))))))
def F_law_sign : FF := fnF 2 1 B_law_sign
def B_law_text_1 : EF :=
  (eCall 1 F_law_sign (aCons (eV 0) aNil))
def B_law_text_2 : SF :=
  (sSeq (sSet 3 (eBin oIx (eF (eLst (aCons (eCall 2 F_law_next (aCons (eV 0) (aCons (eC (.int 8)) aNil))) (aCons (eCall 2 F_law_next (aCons (eV 0) (aCons (eC (.int 20)) aNil))) (aCons (eBin oSub (eC (.int 60)) (eCall 2 F_law_next (aCons (eV 0) (aCons (eC (.int 3)) aNil)))) aNil))))) (eBin oIx (eF (eLst (aCons (eC (.int 0)) (aCons (eC (.int 0)) (aCons (eC (.int 0)) (aCons (eC (.int 1)) (aCons (eC (.int 1)) (aCons (eC (.int 2)) aNil)))))))) (eCall 2 F_law_next (aCons (eV 0) (aCons (eC (.int 6)) aNil))))))
    (sE (eLm mAppend (eV 1) (aCons (eJoin (eC (.str "")) (eF (eComp (eRng1 (aCons (eV 3) aNil)) 4 cT B_law_text_1))) aNil))))
def B_law_text : SF :=
  (sSeq (sOwn 1 (eLst aNil))
  (sSeq (sFor (eRng1 (aCons (eBin oAdd (eC (.int 1)) (eCall 2 F_law_next (aCons (eV 0) (aCons (eBin oIx (eF (eLst (aCons (eC (.int 3)) (aCons (eC (.int 5)) (aCons (eC (.int 12)) aNil))))) (eCall 2 F_law_next (aCons (eV 0) (aCons (eC (.int 3)) aNil)))) aNil)))) aNil)) (gN 2)
    B_law_text_2)
  (sRet (eJoin (eC (.str "\n")) (eV 1)))))
def F_law_text : FF := fnF 5 1 B_law_text
def B_law_single_1 : EF :=
  (eCall 1 F_law_sign (aCons (eV 0) aNil))
def B_law_single : SF :=
  (sSeq (sSet 1 (eF (eLst (aCons (eC (.str "put")) (aCons (eC (.str "put")) (aCons (eC (.str "rub")) (aCons (eC (.str "left")) (aCons (eC (.str "right")) (aCons (eC (.str "right")) (aCons (eC (.str "up")) (aCons (eC (.str "down")) (aCons (eC (.str "home")) (aCons (eC (.str "end")) (aCons (eC (.str "find")) (aCons (eC (.str "take")) (aCons (eC (.str "lay")) (aCons (eC (.str "break")) aNil)))))))))))))))))
  (sSeq (sSet 2 (eBin oIx (eV 1) (eCall 2 F_law_next (aCons (eV 0) (aCons (eC (.int 14)) aNil)))))
  (sSeq (sIf (cB (eBin (oEq false) (eV 2) (eC (.str "put"))))
    (sRet (eTup (aCons (eV 2) (aCons (eCall 1 F_law_sign (aCons (eV 0) aNil)) aNil))))
    sNx)
  (sSeq (sIf (cB (eBin (oEq false) (eV 2) (eC (.str "find"))))
    (sRet (eTup (aCons (eV 2) (aCons (eJoin (eC (.str "")) (eF (eComp (eRng1 (aCons (eBin oAdd (eC (.int 1)) (eCall 2 F_law_next (aCons (eV 0) (aCons (eBin oIx (eF (eLst (aCons (eC (.int 1)) (aCons (eC (.int 2)) (aCons (eC (.int 4)) aNil))))) (eCall 2 F_law_next (aCons (eV 0) (aCons (eC (.int 3)) aNil)))) aNil)))) aNil)) 3 cT B_law_single_1))) aNil))))
    sNx)
  (sRet (eTup (aCons (eV 2) aNil)))))))
def F_law_single : FF := fnF 4 1 B_law_single
def B_law_key : SF :=
  (sSeq (sSet 1 (eCall 2 F_law_next (aCons (eV 0) (aCons (eC (.int 8)) aNil))))
  (sSeq (sIf (cB (eBin (oEq false) (eV 1) (eC (.int 0))))
    (sRet (eTup (aCons (eC (.str "play")) (aCons (eBin oIxS (eC (.str "abcdefgh")) (eCall 2 F_law_next (aCons (eV 0) (aCons (eBin oIx (eF (eLst (aCons (eC (.int 2)) (aCons (eC (.int 3)) (aCons (eC (.int 8)) aNil))))) (eCall 2 F_law_next (aCons (eV 0) (aCons (eC (.int 3)) aNil)))) aNil)))) (aCons (eBin oAdd (eC (.int 1)) (eCall 2 F_law_next (aCons (eV 0) (aCons (eBin oIx (eF (eLst (aCons (eC (.int 2)) (aCons (eC (.int 9)) aNil)))) (eCall 2 F_law_next (aCons (eV 0) (aCons (eC (.int 2)) aNil)))) aNil)))) aNil)))))
    sNx)
  (sRet (eIf (cB (eBin (oEq false) (eV 1) (eC (.int 1)))) (eTup (aCons (eC (.str "till")) (aCons (eBin oIxS (eC (.str "abcdefgh")) (eCall 2 F_law_next (aCons (eV 0) (aCons (eBin oIx (eF (eLst (aCons (eC (.int 2)) (aCons (eC (.int 3)) (aCons (eC (.int 8)) aNil))))) (eCall 2 F_law_next (aCons (eV 0) (aCons (eC (.int 3)) aNil)))) aNil)))) aNil))) (eCall 1 F_law_single (aCons (eV 0) aNil))))))
def F_law_key : FF := fnF 2 1 B_law_key
def B_law_tape_1 : EF :=
  (eIf (cB (eBin oLt (eCall 2 F_law_next (aCons (eV 0) (aCons (eC (.int 3)) aNil))) (eV 2))) (eCall 1 F_law_key (aCons (eV 0) aNil)) (eCall 1 F_law_single (aCons (eV 0) aNil)))
def B_law_tape : SF :=
  (sSeq (sSet 2 (eCall 2 F_law_next (aCons (eV 0) (aCons (eC (.int 3)) aNil))))
  (sRet (eB bTup (aCons (eF (eComp (eRng1 (aCons (eCall 2 F_law_next (aCons (eV 0) (aCons (eBin oAdd (eV 1) (eC (.int 1))) aNil))) aNil)) 3 cT B_law_tape_1)) aNil))))
def F_law_tape : FF := fnF 4 2 B_law_tape
def B_law_tapes_1 : SF :=
  (sIf (cB (eBin oGt (eCall 2 F_law_next (aCons (eV 0) (aCons (eC (.int 3)) aNil))) (eC (.int 0))))
      (sDPut (eV 1) (eV 2) (eCall 2 F_law_tape (aCons (eV 0) (aCons (eBin oIx (eF (eLst (aCons (eC (.int 3)) (aCons (eC (.int 8)) (aCons (eC (.int 30)) aNil))))) (eCall 2 F_law_next (aCons (eV 0) (aCons (eC (.int 3)) aNil)))) aNil))))
      sNx)
def B_law_tapes : SF :=
  (sSeq (sSet 1 eDict0)
  (sSeq (sFor (eIt seqS (eC (.str "abcdefgh"))) (gN 2)
    B_law_tapes_1)
  (sRet (eV 1))))
def F_law_tapes : FF := fnF 3 1 B_law_tapes
def G_law_kind (b : Addr) (c : Str) : SF :=
  (sSeq (sSet 2 (eF (eLst (aCons (eIsE b (decide (c = "BadKeys")) (eV 1)) (aCons (eIsE b (decide (c = "BadTape")) (eV 1)) (aCons (eIsE b (decide (c = "BadText")) (eV 1)) (aCons (eIsE b (decide (c = "BadKey")) (eV 1)) aNil)))))))
  (sSeq (sSet 2 (eF (eBin oCat (eV 2) (eF (eLst (aCons (eIsE b (decide (c = "BadName")) (eV 1)) (aCons (eIsE b (decide (c = "BadNames")) (eV 1)) (aCons (eIsE b (decide (c = "BadNumbers")) (eV 1)) aNil))))))))
  (sSeq (sSet 2 (eF (eBin oCat (eV 2) (eF (eLst (aCons (eIsE b (decide (c = "Taping")) (eV 1)) (aCons (eIsE b (decide (c = "NotTaping")) (eV 1)) (aCons (eIsE b (decide (c = "TooLong")) (eV 1)) aNil))))))))
  (sSeq (sIf (cOr (cB (eBin (oEq true) (eLm mHow (eV 2) (aCons (eC (.bool true)) aNil)) (eC (.int 1)))) (cNot (cB (eIsE b true (eV 1)))))
    (sRet (eC (.str "other")))
    sNx)
  (sSeq (sOwn 3 (eLst (aCons (eC (.str "BadKeys")) (aCons (eC (.str "BadTape")) (aCons (eC (.str "BadText")) (aCons (eC (.str "BadKey")) (aCons (eC (.str "BadName")) (aCons (eC (.str "BadNames")) (aCons (eC (.str "BadNumbers")) (aCons (eC (.str "Taping")) (aCons (eC (.str "NotTaping")) aNil)))))))))))
  (sSeq (sE (eLm mAppend (eV 3) (aCons (eC (.str "TooLong")) aNil)))
  (sSeq (sSet 4 (eLm mIndexS (eV 2) (aCons (eC (.bool true)) aNil)))
  (sRet (eIf (cB (eBin oGt (eV 4) (eC (.int 1)))) (eBin oIx (eV 3) (eV 4)) (eTup (aCons (eBin oIx (eV 3) (eV 4)) (aCons (eIf (cB (eBin (oEq false) (eV 4) (eC (.int 0)))) eNo eNo) aNil))))))))))))
def B_law_turned_1 : EF :=
  (eDGet (eV 0) (eV 2) (eV 2))
def B_law_turned : SF :=
  (sSeq (sIf (cB (eBin (oIn false) (eBin oIxT (eV 1) (eC (.int 0))) (eTup (aCons (eC (.str "put")) (aCons (eC (.str "find")) aNil)))))
    (sRet (eTup (aCons (eBin oIxT (eV 1) (eC (.int 0))) (aCons (eJoin (eC (.str "")) (eF (eComp (eIt seqS (eBin oIxT (eV 1) (eC (.int 1)))) 2 cT B_law_turned_1))) aNil))))
    sNx)
  (sRet (eV 1)))
def F_law_turned : FF := fnF 3 2 B_law_turned
def B_law_1 : SF :=
  (sDPut (eV 2) (eV 7) (eLm mPopAt (eV 6) (aCons (eCall 2 F_law_next (aCons (eV 1) (aCons (eB bLenL (aCons (eV 6) aNil)) aNil))) aNil)))
def B_law_2 : SF :=
  (sSeq (sOwn 6 (eB bListS (aCons (eV 3) aNil)))
    (sFor (eIt seqS (eV 3)) (gN 7)
      B_law_1))
def B_law_3 : EF :=
  (eDGet (eV 2) (eV 7) (eV 7))
def B_law_4 : EF :=
  (eCall 2 F_law_turned (aCons (eV 2) (aCons (eV 12) aNil)))
def B_law_5 : SF :=
  (sSeq (sE (eMet "Editor" "tape" 3 F_Editor_tape (eV 10) (aCons (eV 4) (aCons (eDIx (eV 9) (eV 4)) aNil))))
    (sE (eMet "Editor" "tape" 3 F_Editor_tape (eV 11) (aCons (eV 4) (aCons (eB bTup (aCons (eF (eComp (eIt readT (eDIx (eV 9) (eV 4))) 12 cT B_law_4)) aNil)) aNil)))))
def B_law_6 : EF :=
  (eMet "Editor" "hand" 2 F_Editor_hand (eV 10) (aCons (eV 12) aNil))
def B_law_7 : EF :=
  (eMet "Editor" "hand" 2 F_Editor_hand (eV 11) (aCons (eCall 2 F_law_turned (aCons (eV 2) (aCons (eV 12) aNil))) aNil))
def B_law_8 : EF :=
  (eCall 2 F_law_turned (aCons (eV 2) (aCons (eV 16) aNil)))
def B_law_9 : EF :=
  (eDGet (eV 2) (eV 7) (eV 7))
def B_law_10 : EF :=
  (eJoin (eC (.str "")) (eF (eComp (eIt seqS (eV 16)) 7 cT B_law_9)))
def B_law_11 : SF :=
  (sSeq (sSet 12 (eCall 1 F_law_key (aCons (eV 1) aNil)))
    (sSeq (sSet 13 (eKind 0 "law" "law.<locals>.<lambda>" B_law_6))
    (sSeq (sIf (cB (eBin (oEq true) (eKind 0 "law" "law.<locals>.<lambda>" B_law_7) (eV 13)))
      (sRet (eC (.bool false)))
      sNx)
    (sSeq (sIf (cB (eBin (oEq false) (eV 13) (eC (.str ""))))
      (sSeq (sSet 15 (eF (eCompL (eLv (eMet "Editor" "hand" 2 F_Editor_hand (eV 10) (aCons (eV 12) aNil))) 16 cT B_law_8)))
      (sIf (cOr (cB (eBin (oEqD true) (eMet "Editor" "hand" 2 F_Editor_hand (eV 11) (aCons (eCall 2 F_law_turned (aCons (eV 2) (aCons (eV 12) aNil))) aNil)) (eV 15))) (cB (eBin (oEq true) (eMet "Editor" "press" 2 F_Editor_press (eV 10) (aCons (eV 12) aNil)) (eMet "Editor" "press" 2 F_Editor_press (eV 11) (aCons (eCall 2 F_law_turned (aCons (eV 2) (aCons (eV 12) aNil))) aNil)))))
        (sRet (eC (.bool false)))
        sNx))
      sNx)
    (sSeq (sSet 14 (eF (eComp (eIt readT (eTup (aCons (eMet "Editor" "text" 1 F_Editor_text (eV 10) aNil) (aCons (eMet "Editor" "clip" 1 F_Editor_clip (eV 10) aNil) aNil)))) 16 cT B_law_10)))
    (sIf (cOr (cB (eBin (oEqD true) (eV 14) (eF (eLst (aCons (eMet "Editor" "text" 1 F_Editor_text (eV 11) aNil) (aCons (eMet "Editor" "clip" 1 F_Editor_clip (eV 11) aNil) aNil)))))) (cB (eBin (oEqD true) (eMet "Editor" "place" 1 F_Editor_place (eV 10) aNil) (eMet "Editor" "place" 1 F_Editor_place (eV 11) aNil))))
      (sRet (eC (.bool false)))
      sNx))))))
def B_law : SF :=
  (sSeq (sSet 1 (eCall 2 F_law_mix (aCons (eV 0) (aCons (eC (.int 47)) aNil))))
  (sSeq (sSet 2 eDict0)
  (sSeq (sFor (eIt seqL (eF (eLst (aCons (eC (.str "abcdefghijklmnopqrstuvwxyz")) (aCons (eC (.str "!#$&()*+-./:;<=>?\x40[]^_{|}0123456789ABCDEFGHIJKLMNOPQRSTUVWXYZ")) aNil))))) (gN 3)
    B_law_2)
  (sSeq (sPar 8 9 (eCall 1 F_law_text (aCons (eV 1) aNil)) (eCall 1 F_law_tapes (aCons (eV 1) aNil)))
  (sSeq (sAsg (eTup (aCons (eMak "Editor" 2 F_Editor_init (aCons (eV 8) aNil)) (aCons (eMak "Editor" 2 F_Editor_init (aCons (eJoin (eC (.str "")) (eF (eComp (eIt seqS (eV 8)) 7 cT B_law_3))) aNil)) aNil))) (gT (gsCons (gN 10) (gsCons (gN 11) gsNil)) 2))
  (sSeq (sFor (eIt seqL (eF (eB bSortD (aCons (eV 9) aNil)))) (gN 4)
    B_law_5)
  (sSeq (sFor (eRng1 (aCons (eCall 2 F_law_next (aCons (eV 1) (aCons (eC (.int 30)) aNil))) aNil)) (gN 5)
    B_law_11)
  (sRet (eC (.bool true))))))))))
def F_law : FF := fnF 17 1 B_law

end FE

namespace KT
open PySem PySem.Spec PyProof.Rows L2 KR
def isNumber (d : PyData) (lo hi : Int) : Bool := match d with
  | .int i => decide (lo ≤ i) && decide (i ≤ hi)
  | _ => false
def signOk (c : Nat) : Bool := decide (32 ≤ c) && decide (c ≤ 126)
def areSigns (d : PyData) (lo hi : Int) : Bool := match d with
  | .str z => decide (lo ≤ z.length) && decide ((z.length : Int) ≤ hi) && z.cps.toList.all signOk
  | _ => false
/-- texts within are no longer than a hundred thousand signs -/
def shortS (d : PyData) : Prop := ∀ z, d = .str z → z.length ≤ 100000
theorem le_sign (a c : Nat) : (!decide (([c] : List Nat) < [a])) = decide (a ≤ c) := by
  have : ([c] : List Nat) < [a] ↔ c < a := by
    constructor
    · intro h
      cases h with
      | rel h => exact h
      | cons h => cases h
    · intro h
      exact List.Lex.rel h
  by_cases h : c < a
  · rw [decide_eq_true (this.mpr h), decide_eq_false (by omega)]
    rfl
  · rw [decide_eq_false (fun z => h (this.mp z)), decide_eq_true (by omega)]
    rfl
def isName (d : PyData) : Bool := match d with
  | .str z => decide (z.length = 1) && z.cps.toList.all fun c => decide (97 ≤ c) && decide (c ≤ 104)
  | _ => false
def arg1 (f : PyData → Bool) : List PyData → Bool
  | [x] => f x
  | _ => false
def arg2 (f : PyData → PyData → Bool) : List PyData → Bool
  | [x, y] => f x y
  | _ => false
def isKey : PyData → Bool
  | .tuple (.str w :: r) =>
    if w ∈ (["put", "find"] : List Str) then arg1 (fun x => areSigns x 1 (if w = "put" then 1 else 4)) r
    else if w = "play" then arg2 (fun n k => isName n && isNumber k 1 9) r
    else if w = "till" then arg1 isName r
    else r.isEmpty && decide (w ∈ (["break", "rub", "left", "right", "up", "down", "home", "end", "take", "lay"] : List Str))
  | _ => false
def shortK (d : PyData) : Prop := ∀ ds, d = .tuple ds → ∀ e ∈ ds, shortS e
theorem len1 {α : Type} {xs : List α} {x : α} : ((xs.length + 1 : Nat) : Int) = 1 ↔ xs = [] := by
  constructor
  · intro h
    exact List.eq_nil_of_length_eq_zero (by omega)
  · intro h
    subst h
    rfl
/-- a tape of keys, at most so many -/
def isTape (d : PyData) (most : Nat) : Prop := ∃ ds, d = .tuple ds ∧ ds.length ≤ most ∧ ∀ e ∈ ds, isKey e = true ∧ shortK e
/-! plain keys, rows of any things -/
inductive PK where
  | put (s : Str)
  | rub
  | left
  | right
  | home
  | fin
deriving DecidableEq
def PK.word : PK → Str
  | .put _ => "put"
  | .rub => "rub"
  | .left => "left"
  | .right => "right"
  | .home => "home"
  | .fin => "end"
def PK.data : PK → PyData
  | .put s => .tuple [.str "put", .str s]
  | k => .tuple [.str k.word]
section
variable {α : Type}
def done1 (em : Str → α) (k : PK) (r : List α) (c : Nat) : Option (List α × Nat) := match k with
  | .put s => some (r.take c ++ [em s] ++ r.drop c, c + 1)
  | .home => some (r, 0)
  | .fin => some (r, r.length)
  | .right => if c < r.length then some (r, c + 1) else none
  | .left => if 0 < c then some (r, c - 1) else none
  | .rub => if 0 < c then some (r.eraseIdx (c - 1), c - 1) else none
def doneL (em : Str → α) : List PK → List α → Nat → List α × Nat
  | [], r, c => (r, c)
  | k :: ks, r, c => match done1 em k r c with
    | some (r', c') => doneL em ks r' c'
    | none => (r, c)
theorem done1_le {em : Str → α} {k : PK} {r r' : List α} {c c' : Nat} (h : done1 em k r c = some (r', c')) (hc : c ≤ r.length) : c' ≤ r'.length ∧ r'.length ≤ r.length + 1 := by
  cases k with
  | put s =>
    cases h
    simp only [List.length_append, List.length_take, List.length_drop, List.length_cons, List.length_nil]
    omega
  | home =>
    cases h
    omega
  | fin =>
    cases h
    omega
  | right =>
    simp only [done1] at h
    split at h
    · cases h
      omega
    · cases h
  | left =>
    simp only [done1] at h
    split at h
    · cases h
      omega
    · cases h
  | rub =>
    simp only [done1] at h
    split at h
    · cases h
      rw [List.length_eraseIdx]
      split <;> omega
    · cases h
end
/-- a tape of plain keys as the values of a tuple -/
def TapeAt (K : PySem.W.Frag) (H : Hp) (a : Addr) (ks : List PK) : Prop := ∃ xs, SqT K H a xs ∧ DpAll K H xs (ks.map PK.data)
theorem PK.flat (k : PK) : flat k.data = true := by
  cases k <;> rfl
theorem flat_tape (ks : List PK) : flatAll (ks.map PK.data) = true := flatAll_mem fun d h => by
  obtain ⟨k, _, rfl⟩ := List.mem_map.mp h
  exact k.flat
theorem TapeAt.fr {K : PySem.W.Frag} {S : List Addr} {H H' : Hp} {a : Addr} {ks : List PK} (h : TapeAt K H a ks) (f : Fr S H H') : TapeAt K H' a ks := by
  obtain ⟨xs, h1, h2⟩ := h
  exact ⟨xs, f.sqt h1, DpAll.fr f _ _ (flat_tape ks) h2⟩
/-- a key as its tuple -/
theorem key_vals {K : PySem.W.Frag} {H : Hp} {v : V} {k : PK} (h : Dp K H v k.data) : ∃ a ys, v = .ref a ∧ SqT K H a (.str k.word :: ys) ∧ (∀ s, k = .put s → ys = [.str s]) := by
  cases k with
  | put s =>
    obtain ⟨a, xs, rfl, h1, h2⟩ := dp_tup h
    cases h2 with
    | cons h3 h2 =>
      cases h2 with
      | cons h4 h2 =>
        cases h2
        obtain rfl := dp_str h3
        obtain rfl := dp_str h4
        exact ⟨a, _, rfl, h1, fun s' e => by cases e; rfl⟩
  | _ =>
    obtain ⟨a, xs, rfl, h1, h2⟩ := dp_tup h
    cases h2 with
    | cons h3 h2 =>
      obtain rfl := dp_str h3
      exact ⟨a, _, rfl, h1, fun s' e => by cases e⟩
/-- a plain key as it may stand in a tape: one sign -/
def PK.ok : PK → Prop
  | .put s => ∃ c, s = ⟨#[c]⟩ ∧ signOk c = true
  | _ => True
theorem PK.ok_key {k : PK} (h : k.ok) : isKey k.data = true ∧ shortK k.data ∧ ∃ w r, k.data = .tuple (.str w :: r) ∧ w ∈ (["put", "rub", "left", "right", "home", "end"] : List Str) := by
  have sh : ∀ (w : Str), shortS (.str w) ↔ w.length ≤ 100000 := fun w => ⟨fun h => h w rfl, fun h z e => by cases e; exact h⟩
  cases k with
  | put s =>
    obtain ⟨c, rfl, hc⟩ := h
    refine ⟨?_, fun ds e d hd => ?_, "put", [.str ⟨#[c]⟩], rfl, by decide⟩
    · show isKey (.tuple [.str "put", .str ⟨#[c]⟩]) = true
      rw [isKey, if_pos (show ("put" : Str) ∈ (["put", "find"] : List Str) by decide)]
      show areSigns (.str ⟨#[c]⟩) 1 1 = true
      simp only [areSigns, Bool.and_eq_true, decide_eq_true_eq]
      refine ⟨⟨?_, ?_⟩, ?_⟩
      · show (1 : Int) ≤ ((1 : Nat) : Int)
        omega
      · show ((1 : Nat) : Int) ≤ 1
        omega
      · show ([c] : List Nat).all signOk = true
        simp [hc]
    · cases e
      simp only [List.mem_cons, List.not_mem_nil, or_false] at hd
      rcases hd with rfl | rfl
      · exact (sh _).mpr (by decide)
      · exact (sh _).mpr (by show 1 ≤ 100000; decide)
  | _ =>
    refine ⟨by decide +kernel, fun ds e d hd => ?_, _, [], rfl, by decide⟩
    cases e
    simp only [List.mem_cons, List.not_mem_nil, or_false] at hd
    subst hd
    exact (sh _).mpr (by decide)
/-- the letters that a tape puts -/
def puts : List PK → List Str
  | [] => []
  | .put s :: r => s :: puts r
  | _ :: r => puts r
def putD : PK → Option PyData
  | .put s => some (.str s)
  | _ => none
theorem puts_eq (ks : List PK) : ks.filterMap putD = (puts ks).map PyData.str := by
  induction ks with
  | nil => rfl
  | cons k ks ih => cases k <;> (rw [List.filterMap_cons]; simp [puts, putD, ih])
def SIGNS : List Nat := ("abcdefghijklmnopqrstuvwxyzABCDEFGHIJKLMNOPQRSTUVWXYZ0123456789" : Str).cps.toList
/-- the signs that are told, as a row -/
def freeSigns (ks ls : List PK) : List Nat := SIGNS.filter fun c => !decide ((⟨#[c]⟩ : Str) ∈ puts (ks ++ ls))
def rowOf (cs : List Nat) : Str := ⟨cs.toArray⟩
theorem doneL_mem {α : Type} {em : Str → α} : ∀ (ks : List PK) (r : List α) (c : Nat) (x : α), x ∈ (doneL em ks r c).1 → x ∈ r ∨ ∃ s ∈ puts ks, x = em s
  | [], r, c, x, h => .inl h
  | k :: ks, r, c, x, h => by
    simp only [doneL] at h
    cases e : done1 em k r c with
    | none =>
      rw [e] at h
      exact .inl h
    | some p =>
      obtain ⟨r', c'⟩ := p
      rw [e] at h
      have sub : ∀ s, s ∈ puts ks → s ∈ puts (k :: ks) := fun s hs => by
        cases k <;> simp [puts, hs]
      have h2 := doneL_mem ks r' c' x h
      clear h
      rcases h2 with h2 | ⟨s, hs, h2⟩
      · cases k with
        | put s =>
          cases e
          simp only [List.mem_append, List.mem_cons, List.not_mem_nil, or_false] at h2
          rcases h2 with (h3 | h3) | h3
          · exact .inl (List.mem_of_mem_take h3)
          · exact .inr ⟨s, by simp [puts], h3⟩
          · exact .inl (List.mem_of_mem_drop h3)
        | rub =>
          simp only [done1] at e
          split at e
          · cases e
            exact .inl (List.mem_of_mem_eraseIdx h2)
          · cases e
        | home =>
          cases e
          exact .inl h2
        | fin =>
          cases e
          exact .inl h2
        | right =>
          simp only [done1] at e
          split at e
          · cases e
            exact .inl h2
          · cases e
        | left =>
          simp only [done1] at e
          split at e
          · cases e
            exact .inl h2
          · cases e
      · exact .inr ⟨s, sub s hs, h2⟩
theorem puts_ok {ks : List PK} (h : ∀ k ∈ ks, k.ok) : ∀ s ∈ puts ks, ∃ c, s = ⟨#[c]⟩ ∧ signOk c = true := by
  induction ks with
  | nil => intro s hs; cases hs
  | cons k ks ih =>
    intro s hs
    have ih := ih fun k hk => h k (by simp [hk])
    cases k with
    | put z =>
      simp only [puts, List.mem_cons] at hs
      rcases hs with rfl | hs
      · exact h (.put s) (by simp)
      · exact ih s hs
    | _ => exact ih s hs
theorem okD_row {r : List Str} {c : Int} (h : ∀ s ∈ r, PyData.strOk s = true) : okD (.tuple [.list (r.map PyData.str), .int c]) := by
  refine okD_tup fun d hd => ?_
  simp only [List.mem_cons, List.not_mem_nil, or_false] at hd
  have h1 : ∀ d ∈ r.map PyData.str, okD d ∧ d.depth ≤ 0 := fun d hd => by
    obtain ⟨s, hs, rfl⟩ := List.mem_map.mp hd
    exact ⟨okD_str (h s hs), Nat.le_refl _⟩
  have h2 : ∀ ds : List PyData, (∀ d ∈ ds, okD d ∧ d.depth ≤ 0) → PyData.depthAll ds ≤ 0 := fun ds => by
    induction ds with
    | nil => intro _; exact Nat.le_refl _
    | cons d ds ih =>
      intro h
      have i1 := ih fun e he => h e (by simp [he])
      have i2 := (h d (by simp)).2
      show max (PyData.depth d) (PyData.depthAll ds) ≤ 0
      omega
  rcases hd with rfl | rfl
  · refine ⟨okD_list fun d hd => ⟨(h1 d hd).1, by have := (h1 d hd).2; omega⟩, ?_⟩
    show PyData.depthAll _ + 1 ≤ 10
    have := h2 _ h1
    omega
  · exact ⟨okD_int c, by show 0 ≤ 10; omega⟩
theorem sign_strOk {c : Nat} (h : c < 127) : PyData.strOk ⟨#[c]⟩ = true := by
  show ((#[c] : Array Nat).all fun x => decide (x < 0x110000)) = true
  simp
  omega
theorem SIGNS_ok : ∀ c ∈ SIGNS, c < 127 ∧ signOk c = true := by decide +kernel
theorem mem_chs {z : Str} {s : Str} (h : s ∈ chs z) : ∃ c ∈ z.cps.toList, s = ⟨#[c]⟩ := by
  obtain ⟨c, hc, rfl⟩ := List.mem_map.mp h
  exact ⟨c, hc, rfl⟩
theorem okRow {ks : List PK} {cs : List Nat} {c : Nat} (hk : ∀ k ∈ ks, k.ok) (hc : ∀ c ∈ cs, c < 127) : okD (.tuple [.list ((doneL id ks (chs (rowOf cs)) c).1.map PyData.str), .int (doneL id ks (chs (rowOf cs)) c).2]) := by
  refine okD_row fun s hs => ?_
  rcases doneL_mem _ _ _ _ hs with h | ⟨s', h, e⟩
  · obtain ⟨c, h2, rfl⟩ := mem_chs h
    exact sign_strOk (hc c (by simpa [rowOf] using h2))
  · obtain ⟨c, e2, h2⟩ := puts_ok hk s' h
    rw [e, e2]
    have h' := Bool.and_eq_true_iff.mp h2
    exact sign_strOk (by have := of_decide_eq_true h'.2; omega)
theorem res_inj {r r' : List Str} {c c' : Nat} : (PyData.tuple [.list (r.map PyData.str), .int c] = PyData.tuple [.list (r'.map PyData.str), .int c']) ↔ (r, c) = (r', c') := by
  constructor
  · intro h
    injection h with h
    injection h with h1 h2
    injection h1 with h1
    injection h2 with h2 _
    injection h2 with h2
    have e : r = r' := by
      have := congrArg (List.map fun d => match d with | PyData.str s => s | _ => default) h1
      simpa [List.map_map, Function.comp_def] using this
    rw [e, show c = c' by omega]
  · intro h
    cases h
    rfl
theorem freeSigns_ok (ks ls : List PK) : ∀ c ∈ freeSigns ks ls, c < 127 ∧ signOk c = true := fun c h => SIGNS_ok c (List.mem_filter.mp h).1
theorem filter_ne_len {α : Type} [DecidableEq α] (x : α) : ∀ {cs : List α}, cs.Nodup → cs.length ≤ (cs.filter fun c => !decide (c = x)).length + 1
  | [], _ => by simp
  | c :: cs, h => by
    have h' := List.nodup_cons.mp h
    rw [List.filter_cons]
    by_cases e : c = x
    · subst e
      have : cs.filter (fun d => !decide (d = c)) = cs := List.filter_eq_self.mpr fun d hd => by
        have : d ≠ c := fun z => h'.1 (z ▸ hd)
        simp [this]
      simp [this]
    · have := filter_ne_len x h'.2
      simp only [e, decide_false, Bool.not_false, if_true, List.length_cons]
      omega
theorem filter_notin_len (cs : List Nat) (h : cs.Nodup) : ∀ ps : List Str, cs.length ≤ (cs.filter fun c => !decide ((⟨#[c]⟩ : Str) ∈ ps)).length + ps.length
  | [] => by
    have : cs.filter (fun c => !decide ((⟨#[c]⟩ : Str) ∈ ([] : List Str))) = cs := List.filter_eq_self.mpr fun _ _ => by simp
    rw [this]
    exact Nat.le_refl _
  | p :: ps => by
    have ih := filter_notin_len cs h ps
    have hn : (cs.filter fun c => !decide ((⟨#[c]⟩ : Str) ∈ ps)).Nodup := h.filter _
    by_cases hp : ∃ x : Nat, p = ⟨#[x]⟩
    · obtain ⟨x, rfl⟩ := hp
      have := filter_ne_len x hn
      rw [List.filter_filter] at this
      have e : (fun c : Nat => !decide ((⟨#[c]⟩ : Str) ∈ (⟨#[x]⟩ : Str) :: ps)) = fun c => !decide (c = x) && !decide ((⟨#[c]⟩ : Str) ∈ ps) := by
        funext c
        by_cases h1 : c = x
        · subst h1; simp
        · simp [h1]
      rw [e, List.length_cons]
      omega
    · have e : (fun c : Nat => !decide ((⟨#[c]⟩ : Str) ∈ p :: ps)) = fun c => !decide ((⟨#[c]⟩ : Str) ∈ ps) := by
        funext c
        have : (⟨#[c]⟩ : Str) ≠ p := fun z => hp ⟨c, z.symm⟩
        simp [this]
      rw [e, List.length_cons]
      omega
theorem puts_len : ∀ ks : List PK, (puts ks).length ≤ ks.length
  | [] => Nat.le_refl _
  | k :: ks => by
    have := puts_len ks
    cases k <;> simp [puts] <;> omega
theorem SIGNS_nd : SIGNS.Nodup := by decide +kernel
theorem freeSigns_len {ks ls : List PK} (h1 : ks.length ≤ 6) (h2 : ls.length ≤ 6) : 50 ≤ (freeSigns ks ls).length := by
  have a := filter_notin_len SIGNS SIGNS_nd (puts (ks ++ ls))
  have b := puts_len (ks ++ ls)
  rw [List.length_append] at b
  have c : SIGNS.length = 62 := by decide +kernel
  unfold freeSigns
  omega
theorem rowOf_len (cs : List Nat) : (rowOf cs).length = cs.length := by simp [rowOf, Str.length]
theorem row_take (cs : List Nat) (k : Nat) : (⟨((rowOf cs).cps.toList.take k).toArray⟩ : Str) = rowOf (cs.take k) := by simp [rowOf]
/-- what alike tells -/
def AlikeTells (K : PySem.W.Frag) (ks ls : List PK) (l r : Nat) (v : V) (H' : Hp) : Prop :=
  let M := 2 * max ks.length ls.length + 1
  let same := fun p q => doneL id ks (chs (rowOf ((freeSigns ks ls).take (p + q)))) p = doneL id ls (chs (rowOf ((freeSigns ks ls).take (p + q)))) p
  (v = .non ∧ ∀ p q, l ≤ p → p ≤ max l M → r ≤ q → q ≤ max r M → same p q) ∨
  (∃ t p q, v = .ref t ∧ l ≤ p ∧ p ≤ max l M ∧ r ≤ q ∧ q ≤ max r M ∧ ¬ same p q ∧ SqT K H' t [.str (rowOf ((freeSigns ks ls).take (p + q))), .int p])
theorem nil_or_snoc {α : Type} (l : List α) : l = [] ∨ ∃ l' a, l = l' ++ [a] := by
  rcases List.eq_nil_or_concat l with h | ⟨l', a, h⟩
  · exact .inl h
  · exact .inr ⟨l', a, by rw [h, List.concat_eq_append]⟩
theorem flatAll_sub {xs ys : List PyData} (h : flatAll ys = true) (hs : ∀ d ∈ xs, d ∈ ys) : flatAll xs = true := by
  have hm : ∀ {zs : List PyData}, flatAll zs = true → ∀ d ∈ zs, KR.flat d = true := fun {zs} => by
    induction zs with
    | nil => intro _ d hd; cases hd
    | cons z zs ih =>
      intro h d hd
      have h' := Bool.and_eq_true_iff.mp h
      cases hd with
      | head => exact h'.1
      | tail _ hd => exact ih h'.2 d hd
  exact flatAll_mem fun d hd => hm h d (hs d hd)
section
variable {α : Type}
/-- the row as what is ahead of the place, and what is behind -/
def zst (em : Str → α) (k : PK) (a b : List α) : Option (List α × List α) := match k with
  | .put s => some (a ++ [em s], b)
  | .home => some ([], a ++ b)
  | .fin => some (a ++ b, [])
  | .right => match b with
    | [] => none
    | x :: b => some (a ++ [x], b)
  | .left => match a.getLast? with
    | none => none
    | some x => some (a.dropLast, x :: b)
  | .rub => match a.getLast? with
    | none => none
    | some _ => some (a.dropLast, b)
theorem zst_eq (em : Str → α) (k : PK) (a b : List α) : done1 em k (a ++ b) a.length = (zst em k a b).map fun p => (p.1 ++ p.2, p.1.length) := by
  cases k with
  | put s => simp [done1, zst]
  | home => simp [done1, zst]
  | fin => simp [done1, zst]
  | right =>
    cases b with
    | nil => simp [done1, zst]
    | cons x b => simp [done1, zst]
  | left =>
    rcases List.eq_nil_or_concat a with rfl | ⟨a', x, rfl⟩
    · simp [done1, zst]
    · simp [done1, zst]
  | rub =>
    rcases List.eq_nil_or_concat a with rfl | ⟨a', x, rfl⟩
    · simp [done1, zst]
    · simp [done1, zst]
      rw [List.eraseIdx_eq_take_drop_succ]
      simp
theorem doneL_zst (em : Str → α) (k : PK) (ks : List PK) (a b : List α) : doneL em (k :: ks) (a ++ b) a.length = match zst em k a b with
    | some (a', b') => doneL em ks (a' ++ b') a'.length
    | none => (a ++ b, a.length) := by
  simp only [doneL]
  rw [zst_eq]
  cases zst em k a b <;> rfl
end
section
variable {α β : Type}
theorem done1_map {em : Str → α} {em' : Str → β} (f : α → β) (he : ∀ s, f (em s) = em' s) (k : PK) (r : List α) (c : Nat) : done1 em' k (r.map f) c = (done1 em k r c).map fun p => (p.1.map f, p.2) := by
  cases k with
  | put s => simp [done1, he, List.map_take, List.map_drop]
  | home => rfl
  | fin => simp [done1]
  | right =>
    simp only [done1, List.length_map]
    split <;> rfl
  | left =>
    simp only [done1]
    split <;> rfl
  | rub =>
    simp only [done1]
    split
    · simp [List.eraseIdx_eq_take_drop_succ, List.map_take, List.map_drop]
    · rfl
theorem doneL_map {em : Str → α} {em' : Str → β} (f : α → β) (he : ∀ s, f (em s) = em' s) : ∀ (ks : List PK) (r : List α) (c : Nat), doneL em' ks (r.map f) c = ((doneL em ks r c).1.map f, (doneL em ks r c).2)
  | [], r, c => rfl
  | k :: ks, r, c => by
    simp only [doneL]
    rw [done1_map f he]
    cases e : done1 em k r c with
    | none => rfl
    | some p =>
      obtain ⟨r', c'⟩ := p
      exact doneL_map f he ks r' c'
end
theorem PK.data_inj {k l : PK} (h : k.data = l.data) : k = l := by
  cases k <;> cases l <;> first | rfl | (exfalso; revert h; simp [PK.data, PK.word]; done) | (exfalso; revert h; simp only [PK.data, PK.word]; intro h; injection h with h; injection h with h1 h2; injection h1 with h1; exact absurd h1 (by decide)) | skip
  case put.put s t =>
    simp only [PK.data] at h
    injection h with h
    injection h with h1 h2
    injection h2 with h2 h3
    injection h2 with h2
    rw [h2]
theorem okD_key {k : PK} (h : k.ok) : okD k.data := by
  have hs : ∀ s : Str, PyData.strOk s = true → okD (.str s) ∧ (PyData.str s).depth ≤ 10 := fun s h => ⟨okD_str h, Nat.zero_le _⟩
  cases k with
  | put s =>
    obtain ⟨c, rfl, hc⟩ := h
    refine okD_tup fun d hd => ?_
    simp only [List.mem_cons, List.not_mem_nil, or_false] at hd
    rcases hd with rfl | rfl
    · exact hs _ (by decide +kernel)
    · exact hs _ (by have h' := Bool.and_eq_true_iff.mp hc; exact sign_strOk (by have := of_decide_eq_true h'.2; omega))
  | _ =>
    refine okD_tup fun d hd => ?_
    simp only [List.mem_cons, List.not_mem_nil, or_false] at hd
    subst hd
    exact hs _ (by decide +kernel)
def own (n : Nat) : List PyData := (List.range n).map fun k => .tuple [.str "own", .int (k : Nat)]
/-- two tapes do the same on rows of signs that are like nothing else -/
def SameOwn (ks ls : List PK) (p q : Nat) : Prop := doneL PyData.str ks (own (p + q)) p = doneL PyData.str ls (own (p + q)) p
theorem okD_data {r : List PyData} {c : Int} (h : ∀ d ∈ r, okD d ∧ d.depth ≤ 1) : okD (.tuple [.list r, .int c]) := by
  refine okD_tup fun d hd => ?_
  simp only [List.mem_cons, List.not_mem_nil, or_false] at hd
  have h2 : ∀ ds : List PyData, (∀ d ∈ ds, okD d ∧ d.depth ≤ 1) → PyData.depthAll ds ≤ 1 := fun ds => by
    induction ds with
    | nil => intro _; exact Nat.zero_le _
    | cons d ds ih =>
      intro h
      have i1 := ih fun e he => h e (by simp [he])
      have i2 := (h d (by simp)).2
      show max (PyData.depth d) (PyData.depthAll ds) ≤ 1
      omega
  rcases hd with rfl | rfl
  · refine ⟨okD_list fun d hd => ⟨(h d hd).1, by have := (h d hd).2; omega⟩, ?_⟩
    show PyData.depthAll _ + 1 ≤ 10
    have := h2 _ h
    omega
  · exact ⟨okD_int c, by show 0 ≤ 10; omega⟩
theorem ok_char {c : Nat} (h : signOk c = true) : okD (.str ⟨#[c]⟩) ∧ (PyData.str ⟨#[c]⟩).depth ≤ 1 := by
  have h' := Bool.and_eq_true_iff.mp h
  exact ⟨okD_str (sign_strOk (by have := of_decide_eq_true h'.2; omega)), Nat.zero_le _⟩
theorem ok_own (k : Nat) : okD (.tuple [.str "own", .int (k : Nat)]) ∧ (PyData.tuple [.str "own", .int (k : Nat)]).depth ≤ 1 := by
  refine ⟨okD_tup fun d hd => ?_, Nat.le_refl _⟩
  simp only [List.mem_cons, List.not_mem_nil, or_false] at hd
  rcases hd with rfl | rfl
  · exact ⟨okD_str (by decide +kernel), by show 0 ≤ 10; omega⟩
  · exact ⟨okD_int _, by show 0 ≤ 10; omega⟩
theorem okData {ks : List PK} {es : List PyData} {c : Nat} (hk : ∀ k ∈ ks, k.ok) (hc : ∀ d ∈ es, okD d ∧ d.depth ≤ 1) : okD (.tuple [.list (doneL PyData.str ks es c).1, .int (doneL PyData.str ks es c).2]) := by
  refine okD_data fun d hd => ?_
  rcases doneL_mem _ _ _ _ hd with h | ⟨s', h, e⟩
  · exact hc d h
  · obtain ⟨c, e2, h2⟩ := puts_ok hk s' h
    rw [e, e2]
    exact ok_char h2
theorem own_ok (n : Nat) : ∀ d ∈ own n, okD d ∧ d.depth ≤ 1 := fun d hd => by
  obtain ⟨k, _, rfl⟩ := List.mem_map.mp hd
  exact ok_own k
theorem own_flat (n : Nat) : flatAll (own n) = true := flatAll_mem fun d hd => by
  obtain ⟨k, _, rfl⟩ := List.mem_map.mp hd
  rfl
theorem own_len (n : Nat) : (own n).length = n := by simp [own]
theorem dat_inj {r r' : List PyData} {c c' : Nat} : (PyData.tuple [.list r, .int c] = PyData.tuple [.list r', .int c']) ↔ (r, c) = (r', c') := by
  constructor
  · intro h
    injection h with h
    injection h with h1 h2
    injection h1 with h1
    injection h2 with h2 _
    injection h2 with h2
    rw [h1, show c = c' by omega]
  · intro h
    cases h
    rfl
end KT
namespace KT
open PySem PySem.Spec PyProof.Rows L2 KR
/-! plain law: rows up to 2 n + 1 a side tell all -/
section
variable {α β : Type}
theorem done1_map' {em : Str → α} {em' : Str → β} (f : α → β) (k : PK) (he : ∀ s, k = .put s → f (em s) = em' s) (r : List α) (c : Nat) : done1 em' k (r.map f) c = (done1 em k r c).map fun p => (p.1.map f, p.2) := by
  cases k with
  | put s => simp [done1, he s rfl, List.map_take, List.map_drop]
  | home => rfl
  | fin => simp [done1]
  | right =>
    simp only [done1, List.length_map]
    split <;> rfl
  | left =>
    simp only [done1]
    split <;> rfl
  | rub =>
    simp only [done1]
    split
    · simp [List.eraseIdx_eq_take_drop_succ, List.map_take, List.map_drop]
    · rfl
theorem doneL_map' {em : Str → α} {em' : Str → β} (f : α → β) : ∀ (ks : List PK) (he : ∀ s ∈ puts ks, f (em s) = em' s) (r : List α) (c : Nat), doneL em' ks (r.map f) c = ((doneL em ks r c).1.map f, (doneL em ks r c).2)
  | [], _, r, c => rfl
  | k :: ks, he, r, c => by
    have sub : ∀ s, s ∈ puts ks → s ∈ puts (k :: ks) := fun s hs => by
      cases k <;> simp [puts, hs]
    simp only [doneL]
    rw [done1_map' f k fun s e => he s (by subst e; simp [puts])]
    cases e : done1 em k r c with
    | none => rfl
    | some p =>
      obtain ⟨r', c'⟩ := p
      exact doneL_map' f ks (fun s hs => he s (sub s hs)) r' c'
def canon (n : Nat) : List (Nat ⊕ Str) := (List.range n).map Sum.inl
def DE (ks ls : List PK) (p q : Nat) : Prop := doneL Sum.inr ks (canon (p + q)) p = doneL Sum.inr ls (canon (p + q)) p
theorem DE.row {ks ls : List PK} {p q : Nat} (h : DE ks ls p q) (em : Str → α) (row : List α) (hl : row.length = p + q) : doneL em ks row p = doneL em ls row p := by
  have e : row = (canon (p + q)).map (fun x => match x with | .inl k => row[k]?.getD (em "") | .inr s => em s) := by
    rw [canon, List.map_map, ← hl]
    apply List.ext_getElem?
    intro i
    rw [List.getElem?_map]
    by_cases hi : i < row.length
    · rw [List.getElem?_range hi, Option.map_some]
      simp [Function.comp, List.getElem?_eq_getElem hi]
    · rw [List.getElem?_eq_none (by omega), List.getElem?_eq_none (by simpa using hi)]
      rfl
  rw [e, doneL_map (em := Sum.inr) (em' := em) _ (fun s => rfl), doneL_map (em := Sum.inr) (em' := em) _ (fun s => rfl)]
  rw [show doneL Sum.inr ks (canon (p + q)) p = _ from h]
theorem sameOwn_iff {ks ls : List PK} {p q : Nat} : SameOwn ks ls p q ↔ DE ks ls p q := by
  constructor
  · intro h
    have e : canon (p + q) = (own (p + q)).map (fun x => match x with | .tuple [_, .int k] => Sum.inl k.toNat | .str s => Sum.inr s | _ => Sum.inl 0) := by
      rw [own, canon, List.map_map]
      rfl
    unfold DE
    rw [e, doneL_map (em := PyData.str) (em' := Sum.inr) _ (fun s => rfl), doneL_map (em := PyData.str) (em' := Sum.inr) _ (fun s => rfl)]
    rw [show doneL PyData.str ks (own (p + q)) p = _ from h]
  · intro h
    exact h.row PyData.str (own (p + q)) (own_len _)
/-- on a row of letters that no tape puts, each once -/
theorem sameRow_iff {ks ls : List PK} {p q : Nat} {row : List Str} (hl : row.length = p + q) (nd : row.Nodup) (hn : ∀ s ∈ puts (ks ++ ls), s ∉ row) : doneL id ks row p = doneL id ls row p ↔ DE ks ls p q := by
  have papp : ∀ ks ls : List PK, puts (ks ++ ls) = puts ks ++ puts ls := fun ks ls => by
    induction ks with
    | nil => rfl
    | cons k ks ih => cases k <;> simp [puts, ih]
  constructor
  · intro h
    have e : canon (p + q) = row.map (fun x => if x ∈ row then Sum.inl (row.idxOf x) else Sum.inr x) := by
      rw [canon, ← hl]
      apply List.ext_getElem?
      intro i
      rw [List.getElem?_map, List.getElem?_map]
      by_cases hi : i < row.length
      · rw [List.getElem?_range hi, List.getElem?_eq_getElem hi, Option.map_some, Option.map_some, if_pos (List.getElem_mem hi), nd.idxOf_getElem i hi]
      · rw [List.getElem?_eq_none (by simpa using hi), List.getElem?_eq_none (by omega)]
        rfl
    unfold DE
    rw [e, doneL_map' (em := id) _ ks (fun s hs => by rw [id, if_neg (hn s (by rw [papp]; simp [hs]))]), doneL_map' (em := id) _ ls (fun s hs => by rw [id, if_neg (hn s (by rw [papp]; simp [hs]))]), h]
  · intro h
    exact h.row id row hl
/-! a sign amid the row, that no key comes to -/
def up (n c : Nat) : Nat := if c ≤ n then c else c + 1
structure Far (k : Nat) (L R : List α) (c : Nat) : Prop where
  l : k ≤ L.length
  r : k ≤ R.length
  c : c + k ≤ L.length ∨ (L.length + 1 + k ≤ c ∧ c ≤ L.length + 1 + R.length)
theorem take_app {L T : List α} {c : Nat} (h : c ≤ L.length) : (L ++ T).take c = L.take c := List.take_append_of_le_length h
theorem drop_app {L T : List α} {c : Nat} (h : c ≤ L.length) : (L ++ T).drop c = L.drop c ++ T := List.drop_append_of_le_length h
theorem sim {em : Str → α} {a x : α} : ∀ (ks : List PK) (hp : ∀ s ∈ puts ks, em s ≠ a) (L R : List α) (c : Nat), Far ks.length L R c → a ∉ L →
    ∃ L' R' c', doneL em ks (L ++ a :: R) c = (L' ++ a :: R', c') ∧ doneL em ks (L ++ a :: x :: R) (up L.length c) = (L' ++ a :: x :: R', up L'.length c') ∧ a ∉ L'
  | [], _, L, R, c, _, ha => ⟨L, R, c, rfl, rfl, ha⟩
  | k :: ks, hp, L, R, c, F, ha => by
    have sub : ∀ s ∈ puts ks, em s ≠ a := fun s hs => hp s (by cases k <;> simp [puts, hs])
    obtain ⟨f1, f2, f3⟩ := F
    simp only [List.length_cons] at f1 f2 f3
    -- one key
    suffices h : (∃ L1 R1 c1, done1 em k (L ++ a :: R) c = some (L1 ++ a :: R1, c1) ∧ done1 em k (L ++ a :: x :: R) (up L.length c) = some (L1 ++ a :: x :: R1, up L1.length c1) ∧ a ∉ L1 ∧ Far ks.length L1 R1 c1) ∨
        (done1 em k (L ++ a :: R) c = none ∧ done1 em k (L ++ a :: x :: R) (up L.length c) = none) by
      simp only [doneL]
      rcases h with ⟨L1, R1, c1, h1, h2, h3, h4⟩ | ⟨h1, h2⟩
      · rw [h1, h2]
        exact sim ks sub L1 R1 c1 h4 h3
      · rw [h1, h2]
        exact ⟨L, R, c, rfl, rfl, ha⟩
    have len0 : (L ++ a :: R).length = L.length + 1 + R.length := by simp; omega
    have len1 : (L ++ a :: x :: R).length = L.length + 1 + R.length + 1 := by simp; omega
    rcases f3 with f3 | ⟨f3, f4⟩
    · -- ahead of it
      have hu : up L.length c = c := if_pos (by omega)
      rw [hu]
      cases k with
      | put s =>
        refine .inl ⟨L.take c ++ [em s] ++ L.drop c, R, c + 1, ?_, ?_, ?_, ⟨?_, ?_, .inl ?_⟩⟩
        · simp only [done1, take_app (show c ≤ L.length by omega), drop_app (show c ≤ L.length by omega)]
          simp
        · have hu2 : up (L.take c ++ [em s] ++ L.drop c).length (c + 1) = c + 1 := if_pos (by simp; omega)
          rw [hu2]
          simp only [done1, take_app (show c ≤ L.length by omega), drop_app (show c ≤ L.length by omega)]
          simp
        · intro h
          rcases List.mem_append.mp h with h | h
          · rcases List.mem_append.mp h with h | h
            · exact ha (List.mem_of_mem_take h)
            · have : a = em s := by simpa using h
              exact hp s (by simp [puts]) this.symm
          · exact ha (List.mem_of_mem_drop h)
        · simp; omega
        · omega
        · simp; omega
      | home =>
        refine .inl ⟨L, R, 0, rfl, ?_, ha, ⟨by omega, by omega, .inl (by omega)⟩⟩
        have : up L.length 0 = 0 := if_pos (by omega)
        rw [this]
        rfl
      | fin =>
        refine .inl ⟨L, R, L.length + 1 + R.length, ?_, ?_, ha, ⟨by omega, by omega, .inr ⟨by omega, by omega⟩⟩⟩
        · simp only [done1, len0]
        · have : up L.length (L.length + 1 + R.length) = L.length + 1 + R.length + 1 := if_neg (by omega)
          rw [this]
          simp only [done1, len1]
      | right =>
        refine .inl ⟨L, R, c + 1, ?_, ?_, ha, ⟨by omega, by omega, .inl (by omega)⟩⟩
        · simp only [done1, len0]
          rw [if_pos (by omega)]
        · have : up L.length (c + 1) = c + 1 := if_pos (by omega)
          rw [this]
          simp only [done1, len1]
          rw [if_pos (by omega)]
      | left =>
        by_cases hc : 0 < c
        · refine .inl ⟨L, R, c - 1, ?_, ?_, ha, ⟨by omega, by omega, .inl (by omega)⟩⟩
          · simp only [done1, if_pos hc]
          · have : up L.length (c - 1) = c - 1 := if_pos (by omega)
            rw [this]
            simp only [done1, if_pos hc]
        · exact .inr ⟨by simp only [done1, if_neg hc], by simp only [done1, if_neg hc]⟩
      | rub =>
        by_cases hc : 0 < c
        · have hel : ∀ T : List α, (L ++ T).eraseIdx (c - 1) = L.eraseIdx (c - 1) ++ T := fun T => List.eraseIdx_append_of_lt_length (by omega) T
          have hll : (L.eraseIdx (c - 1)).length = L.length - 1 := by rw [List.length_eraseIdx]; split <;> omega
          refine .inl ⟨L.eraseIdx (c - 1), R, c - 1, ?_, ?_, fun h => ha (List.mem_of_mem_eraseIdx h), ⟨by omega, by omega, .inl (by omega)⟩⟩
          · simp only [done1, if_pos hc, hel]
          · have : up (L.eraseIdx (c - 1)).length (c - 1) = c - 1 := if_pos (by omega)
            rw [this]
            simp only [done1, if_pos hc, hel]
        · exact .inr ⟨by simp only [done1, if_neg hc], by simp only [done1, if_neg hc]⟩
    · -- behind it
      have hu : up L.length c = c + 1 := if_neg (by omega)
      rw [hu]
      obtain ⟨d, rfl⟩ : ∃ d, c = L.length + 1 + d := ⟨c - (L.length + 1), by omega⟩
      have t0 : (L ++ a :: R).take (L.length + 1 + d) = L ++ a :: R.take d := by
        rw [List.take_append, List.take_of_length_le (by omega), show L.length + 1 + d - L.length = d + 1 by omega, List.take_succ_cons]
      have d0 : (L ++ a :: R).drop (L.length + 1 + d) = R.drop d := by
        rw [List.drop_append, List.drop_of_length_le (by omega), show L.length + 1 + d - L.length = d + 1 by omega, List.drop_succ_cons, List.nil_append]
      have t1 : (L ++ a :: x :: R).take (L.length + 1 + d + 1) = L ++ a :: x :: R.take d := by
        rw [List.take_append, List.take_of_length_le (by omega), show L.length + 1 + d + 1 - L.length = d + 2 by omega, List.take_succ_cons, List.take_succ_cons]
      have d1 : (L ++ a :: x :: R).drop (L.length + 1 + d + 1) = R.drop d := by
        rw [List.drop_append, List.drop_of_length_le (by omega), show L.length + 1 + d + 1 - L.length = d + 2 by omega, List.drop_succ_cons, List.drop_succ_cons, List.nil_append]
      cases k with
      | put s =>
        refine .inl ⟨L, R.take d ++ [em s] ++ R.drop d, L.length + 1 + d + 1, ?_, ?_, ha, ⟨by omega, ?_, .inr ⟨by omega, ?_⟩⟩⟩
        · simp only [done1, t0, d0]
          simp
        · have : up L.length (L.length + 1 + d + 1) = L.length + 1 + d + 1 + 1 := if_neg (by omega)
          rw [this]
          simp only [done1, t1, d1]
          simp
        · simp; omega
        · simp; omega
      | home =>
        refine .inl ⟨L, R, 0, rfl, ?_, ha, ⟨by omega, by omega, .inl (by omega)⟩⟩
        have : up L.length 0 = 0 := if_pos (by omega)
        rw [this]
        rfl
      | fin =>
        refine .inl ⟨L, R, L.length + 1 + R.length, ?_, ?_, ha, ⟨by omega, by omega, .inr ⟨by omega, by omega⟩⟩⟩
        · simp only [done1, len0]
        · have : up L.length (L.length + 1 + R.length) = L.length + 1 + R.length + 1 := if_neg (by omega)
          rw [this]
          simp only [done1, len1]
      | right =>
        by_cases hd : d < R.length
        · refine .inl ⟨L, R, L.length + 1 + d + 1, ?_, ?_, ha, ⟨by omega, by omega, .inr ⟨by omega, by omega⟩⟩⟩
          · simp only [done1, len0]
            rw [if_pos (by omega)]
          · have : up L.length (L.length + 1 + d + 1) = L.length + 1 + d + 1 + 1 := if_neg (by omega)
            rw [this]
            simp only [done1, len1]
            rw [if_pos (by omega)]
        · refine .inr ⟨?_, ?_⟩
          · simp only [done1, len0]
            rw [if_neg (by omega)]
          · simp only [done1, len1]
            rw [if_neg (by omega)]
      | left =>
        refine .inl ⟨L, R, L.length + d, ?_, ?_, ha, ⟨by omega, by omega, .inr ⟨by omega, by omega⟩⟩⟩
        · simp only [done1]
          rw [if_pos (by omega), show L.length + 1 + d - 1 = L.length + d by omega]
        · have : up L.length (L.length + d) = L.length + d + 1 := if_neg (by omega)
          rw [this]
          simp only [done1]
          rw [if_pos (by omega), show L.length + 1 + d + 1 - 1 = L.length + d + 1 by omega]
      | rub =>
        have e0 : (L ++ a :: R).eraseIdx (L.length + 1 + d - 1) = L ++ a :: R.eraseIdx (d - 1) := by
          rw [List.eraseIdx_append_of_length_le (by omega), show L.length + 1 + d - 1 - L.length = (d - 1) + 1 by omega, List.eraseIdx_cons_succ]
        have e1 : (L ++ a :: x :: R).eraseIdx (L.length + 1 + d + 1 - 1) = L ++ a :: x :: R.eraseIdx (d - 1) := by
          rw [List.eraseIdx_append_of_length_le (by omega), show L.length + 1 + d + 1 - 1 - L.length = (d - 1) + 1 + 1 by omega, List.eraseIdx_cons_succ, List.eraseIdx_cons_succ]
        have hrl : (R.eraseIdx (d - 1)).length = R.length - 1 := by rw [List.length_eraseIdx]; split <;> omega
        refine .inl ⟨L, R.eraseIdx (d - 1), L.length + d, ?_, ?_, ha, ⟨by omega, by omega, .inr ⟨by omega, by omega⟩⟩⟩
        · simp only [done1]
          rw [if_pos (by omega), e0, show L.length + 1 + d - 1 = L.length + d by omega]
        · have : up L.length (L.length + d) = L.length + d + 1 := if_neg (by omega)
          rw [this]
          simp only [done1]
          rw [if_pos (by omega), e1, show L.length + 1 + d + 1 - 1 = L.length + d + 1 by omega]
theorem Far.mono {k n : Nat} {L R : List α} {c : Nat} (F : Far n L R c) (h : k ≤ n) : Far k L R c := by
  obtain ⟨f1, f2, f3⟩ := F
  exact ⟨by omega, by omega, by omega⟩
theorem split_uniq {a : α} : ∀ {L1 L2 R1 R2 : List α}, a ∉ L1 → a ∉ L2 → L1 ++ a :: R1 = L2 ++ a :: R2 → L1 = L2 ∧ R1 = R2
  | [], [], _, _, _, _, h => by
    cases h
    exact ⟨rfl, rfl⟩
  | [], _ :: _, _, _, _, h2, h => by
    injection h with h _
    exact absurd (by simp [h]) h2
  | _ :: _, [], _, _, h1, _, h => by
    injection h with h _
    exact absurd (by simp [h]) h1
  | y :: L1, z :: L2, _, _, h1, h2, h => by
    injection h with h h'
    obtain ⟨e1, e2⟩ := split_uniq (fun q => h1 (by simp [q])) (fun q => h2 (by simp [q])) h'
    exact ⟨by rw [h, e1], e2⟩
end
/-- a row of one more, told by a row of one less -/
theorem DE.more {ks ls : List PK} {n p q p' q' : Nat} (h1 : ks.length ≤ n) (h2 : ls.length ≤ n) (h : DE ks ls p q) (m : Nat) (hm : m + 2 ≤ p' + q') (hpq : p' + q' = p + q + 1) (hu : up m p = p') (hl : n ≤ m) (hr : m + 2 + n ≤ p' + q') (hc : p + n ≤ m ∨ m + 1 + n ≤ p) : DE ks ls p' q' := by
  have hlen : (canon (p' + q')).length = p' + q' := by simp [canon]
  have hL : ((canon (p' + q')).take m).length = m := by rw [List.length_take]; omega
  have hR : ((canon (p' + q')).drop (m + 2)).length = p' + q' - m - 2 := by rw [List.length_drop]; omega
  have hrow : canon (p' + q') = (canon (p' + q')).take m ++ Sum.inl m :: Sum.inl (m + 1) :: (canon (p' + q')).drop (m + 2) := by
    have e1 : (canon (p' + q'))[m]? = some (Sum.inl m) := by
      rw [canon, List.getElem?_map, List.getElem?_range (by omega)]
      rfl
    have e2 : (canon (p' + q'))[m + 1]? = some (Sum.inl (m + 1)) := by
      rw [canon, List.getElem?_map, List.getElem?_range (by omega)]
      rfl
    conv => lhs; rw [← List.take_append_drop m (canon (p' + q'))]
    congr 1
    obtain ⟨h3, h4⟩ := List.getElem?_eq_some_iff.mp e1
    obtain ⟨h5, h6⟩ := List.getElem?_eq_some_iff.mp e2
    rw [List.drop_eq_getElem_cons h3, List.drop_eq_getElem_cons h5, h4, h6]
  have hna : (Sum.inl m : Nat ⊕ Str) ∉ (canon (p' + q')).take m := by
    intro hx
    obtain ⟨i, hi, e⟩ := List.mem_iff_getElem.mp hx
    rw [List.getElem_take] at e
    simp [canon] at e
    rw [hL] at hi
    omega
  have F : Far n ((canon (p' + q')).take m) ((canon (p' + q')).drop (m + 2)) p := by
    refine ⟨by omega, by omega, ?_⟩
    rw [hL, hR]
    rcases hc with hc | hc
    · exact .inl hc
    · refine .inr ⟨hc, ?_⟩
      unfold up at hu
      split at hu <;> omega
  have hne : ∀ s : Str, (Sum.inr s : Nat ⊕ Str) ≠ Sum.inl m := fun s z => by cases z
  obtain ⟨L1, R1, c1, a1, a2, a3⟩ := sim (em := Sum.inr) (a := Sum.inl m) (x := Sum.inl (m + 1)) ks (fun s _ => hne s) _ _ _ (F.mono h1) hna
  obtain ⟨L2, R2, c2, b1, b2, b3⟩ := sim (em := Sum.inr) (a := Sum.inl m) (x := Sum.inl (m + 1)) ls (fun s _ => hne s) _ _ _ (F.mono h2) hna
  have hs := h.row Sum.inr ((canon (p' + q')).take m ++ Sum.inl m :: (canon (p' + q')).drop (m + 2)) (by rw [List.length_append, List.length_cons, hL, hR]; omega)
  rw [a1, b1] at hs
  injection hs with e1 e2
  obtain ⟨rfl, rfl⟩ := split_uniq a3 b3 e1
  subst e2
  rw [hL, hu] at a2 b2
  unfold DE
  rw [hrow, a2, b2]
theorem DE.all {ks ls : List PK} {l r : Nat} (h : ∀ p q, l ≤ p → p ≤ max l (2 * max ks.length ls.length + 1) → r ≤ q → q ≤ max r (2 * max ks.length ls.length + 1) → DE ks ls p q) : ∀ p q, l ≤ p → r ≤ q → DE ks ls p q := by
  have h1 : ks.length ≤ max ks.length ls.length := Nat.le_max_left _ _
  have h2 : ls.length ≤ max ks.length ls.length := Nat.le_max_right _ _
  generalize max ks.length ls.length = n at *
  have s1 : ∀ q, r ≤ q → q ≤ max r (2 * n + 1) → ∀ p, l ≤ p → DE ks ls p q := fun q q1 q2 p => by
    induction p with
    | zero => exact fun hp => h 0 q hp (Nat.zero_le _) q1 q2
    | succ p ih =>
      intro hp
      by_cases hle : p + 1 ≤ max l (2 * n + 1)
      · exact h (p + 1) q hp hle q1 q2
      · have hu : up n p = p + 1 := if_neg (by omega)
        exact (ih (by omega)).more h1 h2 n (by omega) (by omega) hu (Nat.le_refl _) (by omega) (.inr (by omega))
  intro p q hp
  induction q with
  | zero => exact fun hq => s1 0 hq (Nat.zero_le _) p hp
  | succ q ih =>
    intro hq
    by_cases hle : q + 1 ≤ max r (2 * n + 1)
    · exact s1 (q + 1) hq hle p hp
    · have hu : up (p + n) p = p := if_pos (by omega)
      exact (ih (by omega)).more h1 h2 (p + n) (by omega) (by omega) hu (by omega) (by omega) (.inl (by omega))
theorem chs_row (cs : List Nat) : chs (rowOf cs) = cs.map fun c => (⟨#[c]⟩ : Str) := by simp [chs, rowOf]
theorem freeSigns_nd (ks ls : List PK) : (freeSigns ks ls).Nodup := SIGNS_nd.filter _
theorem alike_same_iff {ks ls : List PK} (h1 : ks.length ≤ 6) (h2 : ls.length ≤ 6) {p q : Nat} (hpq : p + q ≤ 50) :
    doneL id ks (chs (rowOf ((freeSigns ks ls).take (p + q)))) p = doneL id ls (chs (rowOf ((freeSigns ks ls).take (p + q)))) p ↔ DE ks ls p q := by
  have hl := freeSigns_len h1 h2
  refine sameRow_iff ?_ ?_ ?_
  · rw [chs_row, List.length_map, List.length_take]
    omega
  · rw [chs_row]
    refine List.Pairwise.map _ (fun x y (hxy : x ≠ y) h => ?_) ((freeSigns_nd ks ls).sublist (List.take_sublist _ _))
    injection h with h
    injection h with h
    injection h with h
    exact hxy h
  · intro s hs hm
    rw [chs_row] at hm
    obtain ⟨c, hc, rfl⟩ := List.mem_map.mp hm
    have := (List.mem_filter.mp (List.mem_of_mem_take hc)).2
    simp [hs] at this
theorem DE.symm {ks ls : List PK} {p q : Nat} (h : DE ks ls p q) : DE ls ks p q := Eq.symm h
end KT

namespace FE
open PySem L2 KT KR
local macro_rules | `(tactic| simp_arith only [$a,*]) => `(tactic| simp only [y_bin, y_k1, y_k2, y_un, y_kU, y_chain, y_c1, y_c2, y_c3t, y_c3f, y_and, y_andt, y_andf, y_or, y_ort, y_orf, y_cB, y_kB, y_cNot, y_kNot, y_cAnd, y_cAt, y_cAf, y_cOr, y_cOt, y_cOf, y_if, y_ift, y_iff, y_nil, y_cons, y_kc1, y_kc2, y_tup, y_kTup, y_lst, y_kLst, y_F, y_kF, y_Bx, y_kBx, y_B, y_kEB, y_call, y_kCall, y_kRet, y_V, y_C, y_seq, y_kSn, y_kSr, y_kSb, y_kSc, y_kSe, y_sIf, y_kSIt, y_kSIf, y_sE, y_kSE, y_ret, y_kSR, y_set, y_kSet, y_own, y_kOwn, y_asg, y_kAsg, y_kNx, y_for, y_kFor, y_loop0, y_kL1, y_kL2n, y_kL2c, y_kL2b, y_kL2r, y_kL2e, y_par, y_kP1, y_kP2, y_parL, y_kQ1, y_kQ2, y_fn, y_finN, y_finD, y_finRef, y_finT, y_finE, y_it, y_kItL, y_kItT, y_kItlw, y_kItscr, y_kItS, y_rng1, y_kR1, y_rng2, y_kR2, y_xN, y_xS, y_kX, y_sl, y_l1, y_l2, y_l3, y_lm, y_kM1, y_kM3, y_kM2, y_gIx, y_kG1, y_kG2, y_kG3, y_kG4, y_gN, y_isi, y_kIs, y_join, y_kJ1, y_kJ2, d_app, d_allD, d_frees, d_take, d_drop, d_cut, d_get, d_set, d_rep, allD_map, frees_map, sNx, sBk, sCt, cT, y_fz, y_kFz, readT, readQ, seqR, wrL, oIx, oIxT, oIxS, bMax, bMin, bLenL, bLenT, bLenS, bInt, bList, bListS, bTup, oNil, oNilT, oIsN, oIsB, isNo, oCat, oRep, oCatT, oRepT, slL, slT, slS, mAppend, mPop, mPopAt, mInsert, mExtend, wr, eNot, rvT, oNeg, finEs, finE, mkL, mkT, z_d, z_ref, z_scr, z_tw, z_lw, z_nil, z_cons, z_a0, z_a1, z_ar, z_at, z_al, z_ao, x_add, x_sub, x_mul, x_mod, x_div, x_pow, x_lt, x_le, x_gt, x_ge, x_addS, x_ltS, x_leS, x_eqI, x_eqS, x_eqB, atI_pos, List.map_cons, List.map_nil, List.length_cons, List.length_nil, List.length_map, List.cons_append, List.nil_append, List.append_nil, List.getElem?_cons_zero, List.getElem?_cons_succ, List.getElem?_nil, List.set_cons_zero, List.set_cons_succ, List.replicate_succ, List.replicate_zero, List.isEmpty_cons, List.isEmpty_nil, Option.map_some, Option.map_none, Option.isSome_some, Nat.reduceSub, Nat.reduceAdd, Nat.reduceEqDiff, Nat.reduceLeDiff, Int.reduceToNat, Bool.and_true, Bool.true_and, Bool.and_self, and_self, and_true, true_and, if_true, if_false, ite_true, ite_false, reduceIte, Bool.not_true, Bool.not_false, Bool.false_eq_true, decide_true, decide_false, decide_eq_true_eq, Int.reduceLE, Int.reduceLT, Int.reduceGE, Int.reduceGT, Int.reduceAdd, Int.reduceSub, Int.reduceMul, Int.reduceNeg, Int.reduceEq, Int.reduceNe, Int.reducePow, Int.reduceMod, Int.reduceDiv, Nat.reduceLT, Nat.reduceMul, Nat.reducePow, Nat.reduceGT, Nat.zero_le, Int.zero_le_ofNat, Int.natCast_zero, Int.natCast_one, Int.cast_ofNat_Int, y_sSl, y_kS1, y_kS2, y_kS3, y_kS4, y_kS5, y_kS6, w_eq, String.reduceEq, Int.toNat_natCast, Int.natCast_nonneg, Int.le_refl, Nat.le_refl, y_comp, y_kCp, y_kCp2n, y_kCp2v, List.set_set, kx_non_int, kx_non_bool, kx_non_str, kx_non_tuple, kx_non_list, kx_bl_int, kx_bl_bool, kx_bl_str, kx_bl_tuple, kx_bl_list, kx_int_int, kx_int_bool, kx_int_str, kx_int_tuple, kx_int_list, kx_str_int, kx_str_bool, kx_str_str, kx_str_tuple, kx_str_list, kx_lst_int, kx_lst_bool, kx_lst_str, kx_lst_tuple, kx_lst_list, kx_tup_int, kx_tup_bool, kx_tup_str, kx_tup_tuple, kx_tup_list, okk_int, okk_bool, okk_str, okk_tuple, okk_list, kx_dct_int, kx_dct_bool, kx_dct_str, kx_dct_tuple, kx_dct_list, List.isEmpty_map, z_S0, z_S1, z_Sm, x_in, y_kIn, in_strsL, y_gT1, y_gT2, y_gT3, y_gW2, look_nil, look_cons, put_nil, put_cons, y_get, y_kGet, y_kGet2, y_kGet3, y_met, y_kMet, y_kMet2, y_kMet3, y_kMet4, y_mak, y_kMak, y_kMk2, y_fld, y_kFl1, y_kFl2, y_kFl3, List.mem_cons, List.not_mem_nil, or_false, false_or, or_self, or_true, true_or, decide_true, decide_false, y_dget, y_kDG1, y_kDG2, y_kDG3, y_kDG4, y_kDG5, getD_some, getD_none, y_dput, y_kDP1, y_kDP2, y_kDP3, y_kDP4, y_split, y_kSp1, y_kSp2, y_dict0, y_dix, y_kI1, y_kI3, y_kI4, y_kI5, y_dnil, y_dcons, y_kD1, y_kD2, y_dict, y_kD3, y_kD4, y_orB, y_kBoN, y_kBoY, y_orO, y_kOoN, y_kOoY, x_gtT, y_isi2, y_kIs2, Bool.or_true, Bool.or_false, Bool.true_or, Bool.false_or, Bool.or_self, rl_list, rl_tup, rl_str, rl_int, rl_non, rl_lw, rl_tw, rl_ref, rl_own, rl_kRl, rl_kRo, $a,*])
local macro_rules | `(tactic| simp_arith only [$a,*] at $h:ident) => `(tactic| simp only [y_bin, y_k1, y_k2, y_un, y_kU, y_chain, y_c1, y_c2, y_c3t, y_c3f, y_and, y_andt, y_andf, y_or, y_ort, y_orf, y_cB, y_kB, y_cNot, y_kNot, y_cAnd, y_cAt, y_cAf, y_cOr, y_cOt, y_cOf, y_if, y_ift, y_iff, y_nil, y_cons, y_kc1, y_kc2, y_tup, y_kTup, y_lst, y_kLst, y_F, y_kF, y_Bx, y_kBx, y_B, y_kEB, y_call, y_kCall, y_kRet, y_V, y_C, y_seq, y_kSn, y_kSr, y_kSb, y_kSc, y_kSe, y_sIf, y_kSIt, y_kSIf, y_sE, y_kSE, y_ret, y_kSR, y_set, y_kSet, y_own, y_kOwn, y_asg, y_kAsg, y_kNx, y_for, y_kFor, y_loop0, y_kL1, y_kL2n, y_kL2c, y_kL2b, y_kL2r, y_kL2e, y_par, y_kP1, y_kP2, y_parL, y_kQ1, y_kQ2, y_fn, y_finN, y_finD, y_finRef, y_finT, y_finE, y_it, y_kItL, y_kItT, y_kItlw, y_kItscr, y_kItS, y_rng1, y_kR1, y_rng2, y_kR2, y_xN, y_xS, y_kX, y_sl, y_l1, y_l2, y_l3, y_lm, y_kM1, y_kM3, y_kM2, y_gIx, y_kG1, y_kG2, y_kG3, y_kG4, y_gN, y_isi, y_kIs, y_join, y_kJ1, y_kJ2, d_app, d_allD, d_frees, d_take, d_drop, d_cut, d_get, d_set, d_rep, allD_map, frees_map, sNx, sBk, sCt, cT, y_fz, y_kFz, readT, readQ, seqR, wrL, oIx, oIxT, oIxS, bMax, bMin, bLenL, bLenT, bLenS, bInt, bList, bListS, bTup, oNil, oNilT, oIsN, oIsB, isNo, oCat, oRep, oCatT, oRepT, slL, slT, slS, mAppend, mPop, mPopAt, mInsert, mExtend, wr, eNot, rvT, oNeg, finEs, finE, mkL, mkT, z_d, z_ref, z_scr, z_tw, z_lw, z_nil, z_cons, z_a0, z_a1, z_ar, z_at, z_al, z_ao, x_add, x_sub, x_mul, x_mod, x_div, x_pow, x_lt, x_le, x_gt, x_ge, x_addS, x_ltS, x_leS, x_eqI, x_eqS, x_eqB, atI_pos, List.map_cons, List.map_nil, List.length_cons, List.length_nil, List.length_map, List.cons_append, List.nil_append, List.append_nil, List.getElem?_cons_zero, List.getElem?_cons_succ, List.getElem?_nil, List.set_cons_zero, List.set_cons_succ, List.replicate_succ, List.replicate_zero, List.isEmpty_cons, List.isEmpty_nil, Option.map_some, Option.map_none, Option.isSome_some, Nat.reduceSub, Nat.reduceAdd, Nat.reduceEqDiff, Nat.reduceLeDiff, Int.reduceToNat, Bool.and_true, Bool.true_and, Bool.and_self, and_self, and_true, true_and, if_true, if_false, ite_true, ite_false, reduceIte, Bool.not_true, Bool.not_false, Bool.false_eq_true, decide_true, decide_false, decide_eq_true_eq, Int.reduceLE, Int.reduceLT, Int.reduceGE, Int.reduceGT, Int.reduceAdd, Int.reduceSub, Int.reduceMul, Int.reduceNeg, Int.reduceEq, Int.reduceNe, Int.reducePow, Int.reduceMod, Int.reduceDiv, Nat.reduceLT, Nat.reduceMul, Nat.reducePow, Nat.reduceGT, Nat.zero_le, Int.zero_le_ofNat, Int.natCast_zero, Int.natCast_one, Int.cast_ofNat_Int, y_sSl, y_kS1, y_kS2, y_kS3, y_kS4, y_kS5, y_kS6, w_eq, String.reduceEq, Int.toNat_natCast, Int.natCast_nonneg, Int.le_refl, Nat.le_refl, y_comp, y_kCp, y_kCp2n, y_kCp2v, List.set_set, kx_non_int, kx_non_bool, kx_non_str, kx_non_tuple, kx_non_list, kx_bl_int, kx_bl_bool, kx_bl_str, kx_bl_tuple, kx_bl_list, kx_int_int, kx_int_bool, kx_int_str, kx_int_tuple, kx_int_list, kx_str_int, kx_str_bool, kx_str_str, kx_str_tuple, kx_str_list, kx_lst_int, kx_lst_bool, kx_lst_str, kx_lst_tuple, kx_lst_list, kx_tup_int, kx_tup_bool, kx_tup_str, kx_tup_tuple, kx_tup_list, okk_int, okk_bool, okk_str, okk_tuple, okk_list, kx_dct_int, kx_dct_bool, kx_dct_str, kx_dct_tuple, kx_dct_list, List.isEmpty_map, z_S0, z_S1, z_Sm, x_in, y_kIn, in_strsL, y_gT1, y_gT2, y_gT3, y_gW2, look_nil, look_cons, put_nil, put_cons, y_get, y_kGet, y_kGet2, y_kGet3, y_met, y_kMet, y_kMet2, y_kMet3, y_kMet4, y_mak, y_kMak, y_kMk2, y_fld, y_kFl1, y_kFl2, y_kFl3, List.mem_cons, List.not_mem_nil, or_false, false_or, or_self, or_true, true_or, decide_true, decide_false, y_dget, y_kDG1, y_kDG2, y_kDG3, y_kDG4, y_kDG5, getD_some, getD_none, y_dput, y_kDP1, y_kDP2, y_kDP3, y_kDP4, y_split, y_kSp1, y_kSp2, y_dict0, y_dix, y_kI1, y_kI3, y_kI4, y_kI5, y_dnil, y_dcons, y_kD1, y_kD2, y_dict, y_kD3, y_kD4, y_orB, y_kBoN, y_kBoY, y_orO, y_kOoN, y_kOoY, x_gtT, y_isi2, y_kIs2, Bool.or_true, Bool.or_false, Bool.true_or, Bool.false_or, Bool.or_self, rl_list, rl_tup, rl_str, rl_int, rl_non, rl_lw, rl_tw, rl_ref, rl_own, rl_kRl, rl_kRo, $a,*] at $h:ident)
section
variable {a : Addr} {b : Bool} {f : EF} {s : S} {ds : List PyData} {d : PyData}
def kIsE (a : Addr) (b : Bool) (r : R S W) : R S W := r.bind fun w s => match w with
  | .adr a' => if a' = a then .ok (.d (.bool b)) s else .no
  | _ => .no
theorem y_isE : eIsE a b f s = kIsE a b (f s) := (rfl)
theorem y_kIsE : kIsE a b (.ok (.adr a) s) = .ok (.d (.bool b)) s := by
  show (if a = a then _ else _) = _
  rw [if_pos rfl]
theorem x_how {n : Nat} (h1 : SeqAt.shaped (.list ds) = true) (h2 : SeqAt.shaped d = true) (h3 : (ds.countP fun z => PyData.eqv z d) = n) : mHow (.d (.list ds)) [.d d] s = .ok (.d (.int (n : Int))) s := by
  show (if SeqAt.shaped (.list ds) = true ∧ SeqAt.shaped d = true then _ else _) = _
  rw [if_pos ⟨h1, h2⟩, h3]
theorem x_ixD {n : Nat} (h1 : SeqAt.shaped (.list ds) = true) (h2 : SeqAt.shaped d = true) (h3 : (ds.findIdx? fun z => PyData.eqv z d) = some n) : mIndexS (.d (.list ds)) [.d d] s = .ok (.d (.int (n : Int))) s := by
  show (if SeqAt.shaped (.list ds) = true ∧ SeqAt.shaped d = true then _ else _) = _
  rw [if_pos ⟨h1, h2⟩, h3]
end
theorem kind_BadText (b : Addr) (m : M) : ∃ sl, G_law_kind b "BadText" ⟨[.no, .v (.adr b), .no, .no, .no], m⟩ = .rt (.d (.str "BadText")) ⟨sl, m⟩ := by
  refine ⟨[.no, .v (.adr b), .v (.d (.list [.bool false, .bool false, .bool true, .bool false, .bool false, .bool false, .bool false, .bool false, .bool false, .bool false])), .own [.d (.str "BadKeys"), .d (.str "BadTape"), .d (.str "BadText"), .d (.str "BadKey"), .d (.str "BadName"), .d (.str "BadNames"), .d (.str "BadNumbers"), .d (.str "Taping"), .d (.str "NotTaping"), .d (.str "TooLong")], .v (.d (.int 2))], ?_⟩
  unfold G_law_kind
  simp only [show decide (("BadText" : Str) = "BadKeys") = false from by decide, show decide (("BadText" : Str) = "BadTape") = false from by decide, show decide (("BadText" : Str) = "BadText") = true from by decide, show decide (("BadText" : Str) = "BadKey") = false from by decide, show decide (("BadText" : Str) = "BadName") = false from by decide, show decide (("BadText" : Str) = "BadNames") = false from by decide, show decide (("BadText" : Str) = "BadNumbers") = false from by decide, show decide (("BadText" : Str) = "Taping") = false from by decide, show decide (("BadText" : Str) = "NotTaping") = false from by decide, show decide (("BadText" : Str) = "TooLong") = false from by decide]
  simp_arith only [y_isE, y_kIsE, x_how (ds := [.bool false, .bool false, .bool true, .bool false, .bool false, .bool false, .bool false, .bool false, .bool false, .bool false]) (d := .bool true) (n := 1) (by decide) (by decide) (by decide), x_ixD (ds := [.bool false, .bool false, .bool true, .bool false, .bool false, .bool false, .bool false, .bool false, .bool false, .bool false]) (d := .bool true) (n := 2) (by decide) (by decide) (by decide)]
theorem kind_BadKey (b : Addr) (m : M) : ∃ sl, G_law_kind b "BadKey" ⟨[.no, .v (.adr b), .no, .no, .no], m⟩ = .rt (.d (.str "BadKey")) ⟨sl, m⟩ := by
  refine ⟨[.no, .v (.adr b), .v (.d (.list [.bool false, .bool false, .bool false, .bool true, .bool false, .bool false, .bool false, .bool false, .bool false, .bool false])), .own [.d (.str "BadKeys"), .d (.str "BadTape"), .d (.str "BadText"), .d (.str "BadKey"), .d (.str "BadName"), .d (.str "BadNames"), .d (.str "BadNumbers"), .d (.str "Taping"), .d (.str "NotTaping"), .d (.str "TooLong")], .v (.d (.int 3))], ?_⟩
  unfold G_law_kind
  simp only [show decide (("BadKey" : Str) = "BadKeys") = false from by decide, show decide (("BadKey" : Str) = "BadTape") = false from by decide, show decide (("BadKey" : Str) = "BadText") = false from by decide, show decide (("BadKey" : Str) = "BadKey") = true from by decide, show decide (("BadKey" : Str) = "BadName") = false from by decide, show decide (("BadKey" : Str) = "BadNames") = false from by decide, show decide (("BadKey" : Str) = "BadNumbers") = false from by decide, show decide (("BadKey" : Str) = "Taping") = false from by decide, show decide (("BadKey" : Str) = "NotTaping") = false from by decide, show decide (("BadKey" : Str) = "TooLong") = false from by decide]
  simp_arith only [y_isE, y_kIsE, x_how (ds := [.bool false, .bool false, .bool false, .bool true, .bool false, .bool false, .bool false, .bool false, .bool false, .bool false]) (d := .bool true) (n := 1) (by decide) (by decide) (by decide), x_ixD (ds := [.bool false, .bool false, .bool false, .bool true, .bool false, .bool false, .bool false, .bool false, .bool false, .bool false]) (d := .bool true) (n := 3) (by decide) (by decide) (by decide)]
theorem kind_BadName (b : Addr) (m : M) : ∃ sl, G_law_kind b "BadName" ⟨[.no, .v (.adr b), .no, .no, .no], m⟩ = .rt (.d (.str "BadName")) ⟨sl, m⟩ := by
  refine ⟨[.no, .v (.adr b), .v (.d (.list [.bool false, .bool false, .bool false, .bool false, .bool true, .bool false, .bool false, .bool false, .bool false, .bool false])), .own [.d (.str "BadKeys"), .d (.str "BadTape"), .d (.str "BadText"), .d (.str "BadKey"), .d (.str "BadName"), .d (.str "BadNames"), .d (.str "BadNumbers"), .d (.str "Taping"), .d (.str "NotTaping"), .d (.str "TooLong")], .v (.d (.int 4))], ?_⟩
  unfold G_law_kind
  simp only [show decide (("BadName" : Str) = "BadKeys") = false from by decide, show decide (("BadName" : Str) = "BadTape") = false from by decide, show decide (("BadName" : Str) = "BadText") = false from by decide, show decide (("BadName" : Str) = "BadKey") = false from by decide, show decide (("BadName" : Str) = "BadName") = true from by decide, show decide (("BadName" : Str) = "BadNames") = false from by decide, show decide (("BadName" : Str) = "BadNumbers") = false from by decide, show decide (("BadName" : Str) = "Taping") = false from by decide, show decide (("BadName" : Str) = "NotTaping") = false from by decide, show decide (("BadName" : Str) = "TooLong") = false from by decide]
  simp_arith only [y_isE, y_kIsE, x_how (ds := [.bool false, .bool false, .bool false, .bool false, .bool true, .bool false, .bool false, .bool false, .bool false, .bool false]) (d := .bool true) (n := 1) (by decide) (by decide) (by decide), x_ixD (ds := [.bool false, .bool false, .bool false, .bool false, .bool true, .bool false, .bool false, .bool false, .bool false, .bool false]) (d := .bool true) (n := 4) (by decide) (by decide) (by decide)]
theorem kind_BadNames (b : Addr) (m : M) : ∃ sl, G_law_kind b "BadNames" ⟨[.no, .v (.adr b), .no, .no, .no], m⟩ = .rt (.d (.str "BadNames")) ⟨sl, m⟩ := by
  refine ⟨[.no, .v (.adr b), .v (.d (.list [.bool false, .bool false, .bool false, .bool false, .bool false, .bool true, .bool false, .bool false, .bool false, .bool false])), .own [.d (.str "BadKeys"), .d (.str "BadTape"), .d (.str "BadText"), .d (.str "BadKey"), .d (.str "BadName"), .d (.str "BadNames"), .d (.str "BadNumbers"), .d (.str "Taping"), .d (.str "NotTaping"), .d (.str "TooLong")], .v (.d (.int 5))], ?_⟩
  unfold G_law_kind
  simp only [show decide (("BadNames" : Str) = "BadKeys") = false from by decide, show decide (("BadNames" : Str) = "BadTape") = false from by decide, show decide (("BadNames" : Str) = "BadText") = false from by decide, show decide (("BadNames" : Str) = "BadKey") = false from by decide, show decide (("BadNames" : Str) = "BadName") = false from by decide, show decide (("BadNames" : Str) = "BadNames") = true from by decide, show decide (("BadNames" : Str) = "BadNumbers") = false from by decide, show decide (("BadNames" : Str) = "Taping") = false from by decide, show decide (("BadNames" : Str) = "NotTaping") = false from by decide, show decide (("BadNames" : Str) = "TooLong") = false from by decide]
  simp_arith only [y_isE, y_kIsE, x_how (ds := [.bool false, .bool false, .bool false, .bool false, .bool false, .bool true, .bool false, .bool false, .bool false, .bool false]) (d := .bool true) (n := 1) (by decide) (by decide) (by decide), x_ixD (ds := [.bool false, .bool false, .bool false, .bool false, .bool false, .bool true, .bool false, .bool false, .bool false, .bool false]) (d := .bool true) (n := 5) (by decide) (by decide) (by decide)]
theorem kind_BadNumbers (b : Addr) (m : M) : ∃ sl, G_law_kind b "BadNumbers" ⟨[.no, .v (.adr b), .no, .no, .no], m⟩ = .rt (.d (.str "BadNumbers")) ⟨sl, m⟩ := by
  refine ⟨[.no, .v (.adr b), .v (.d (.list [.bool false, .bool false, .bool false, .bool false, .bool false, .bool false, .bool true, .bool false, .bool false, .bool false])), .own [.d (.str "BadKeys"), .d (.str "BadTape"), .d (.str "BadText"), .d (.str "BadKey"), .d (.str "BadName"), .d (.str "BadNames"), .d (.str "BadNumbers"), .d (.str "Taping"), .d (.str "NotTaping"), .d (.str "TooLong")], .v (.d (.int 6))], ?_⟩
  unfold G_law_kind
  simp only [show decide (("BadNumbers" : Str) = "BadKeys") = false from by decide, show decide (("BadNumbers" : Str) = "BadTape") = false from by decide, show decide (("BadNumbers" : Str) = "BadText") = false from by decide, show decide (("BadNumbers" : Str) = "BadKey") = false from by decide, show decide (("BadNumbers" : Str) = "BadName") = false from by decide, show decide (("BadNumbers" : Str) = "BadNames") = false from by decide, show decide (("BadNumbers" : Str) = "BadNumbers") = true from by decide, show decide (("BadNumbers" : Str) = "Taping") = false from by decide, show decide (("BadNumbers" : Str) = "NotTaping") = false from by decide, show decide (("BadNumbers" : Str) = "TooLong") = false from by decide]
  simp_arith only [y_isE, y_kIsE, x_how (ds := [.bool false, .bool false, .bool false, .bool false, .bool false, .bool false, .bool true, .bool false, .bool false, .bool false]) (d := .bool true) (n := 1) (by decide) (by decide) (by decide), x_ixD (ds := [.bool false, .bool false, .bool false, .bool false, .bool false, .bool false, .bool true, .bool false, .bool false, .bool false]) (d := .bool true) (n := 6) (by decide) (by decide) (by decide)]
theorem kind_Taping (b : Addr) (m : M) : ∃ sl, G_law_kind b "Taping" ⟨[.no, .v (.adr b), .no, .no, .no], m⟩ = .rt (.d (.str "Taping")) ⟨sl, m⟩ := by
  refine ⟨[.no, .v (.adr b), .v (.d (.list [.bool false, .bool false, .bool false, .bool false, .bool false, .bool false, .bool false, .bool true, .bool false, .bool false])), .own [.d (.str "BadKeys"), .d (.str "BadTape"), .d (.str "BadText"), .d (.str "BadKey"), .d (.str "BadName"), .d (.str "BadNames"), .d (.str "BadNumbers"), .d (.str "Taping"), .d (.str "NotTaping"), .d (.str "TooLong")], .v (.d (.int 7))], ?_⟩
  unfold G_law_kind
  simp only [show decide (("Taping" : Str) = "BadKeys") = false from by decide, show decide (("Taping" : Str) = "BadTape") = false from by decide, show decide (("Taping" : Str) = "BadText") = false from by decide, show decide (("Taping" : Str) = "BadKey") = false from by decide, show decide (("Taping" : Str) = "BadName") = false from by decide, show decide (("Taping" : Str) = "BadNames") = false from by decide, show decide (("Taping" : Str) = "BadNumbers") = false from by decide, show decide (("Taping" : Str) = "Taping") = true from by decide, show decide (("Taping" : Str) = "NotTaping") = false from by decide, show decide (("Taping" : Str) = "TooLong") = false from by decide]
  simp_arith only [y_isE, y_kIsE, x_how (ds := [.bool false, .bool false, .bool false, .bool false, .bool false, .bool false, .bool false, .bool true, .bool false, .bool false]) (d := .bool true) (n := 1) (by decide) (by decide) (by decide), x_ixD (ds := [.bool false, .bool false, .bool false, .bool false, .bool false, .bool false, .bool false, .bool true, .bool false, .bool false]) (d := .bool true) (n := 7) (by decide) (by decide) (by decide)]
theorem kind_NotTaping (b : Addr) (m : M) : ∃ sl, G_law_kind b "NotTaping" ⟨[.no, .v (.adr b), .no, .no, .no], m⟩ = .rt (.d (.str "NotTaping")) ⟨sl, m⟩ := by
  refine ⟨[.no, .v (.adr b), .v (.d (.list [.bool false, .bool false, .bool false, .bool false, .bool false, .bool false, .bool false, .bool false, .bool true, .bool false])), .own [.d (.str "BadKeys"), .d (.str "BadTape"), .d (.str "BadText"), .d (.str "BadKey"), .d (.str "BadName"), .d (.str "BadNames"), .d (.str "BadNumbers"), .d (.str "Taping"), .d (.str "NotTaping"), .d (.str "TooLong")], .v (.d (.int 8))], ?_⟩
  unfold G_law_kind
  simp only [show decide (("NotTaping" : Str) = "BadKeys") = false from by decide, show decide (("NotTaping" : Str) = "BadTape") = false from by decide, show decide (("NotTaping" : Str) = "BadText") = false from by decide, show decide (("NotTaping" : Str) = "BadKey") = false from by decide, show decide (("NotTaping" : Str) = "BadName") = false from by decide, show decide (("NotTaping" : Str) = "BadNames") = false from by decide, show decide (("NotTaping" : Str) = "BadNumbers") = false from by decide, show decide (("NotTaping" : Str) = "Taping") = false from by decide, show decide (("NotTaping" : Str) = "NotTaping") = true from by decide, show decide (("NotTaping" : Str) = "TooLong") = false from by decide]
  simp_arith only [y_isE, y_kIsE, x_how (ds := [.bool false, .bool false, .bool false, .bool false, .bool false, .bool false, .bool false, .bool false, .bool true, .bool false]) (d := .bool true) (n := 1) (by decide) (by decide) (by decide), x_ixD (ds := [.bool false, .bool false, .bool false, .bool false, .bool false, .bool false, .bool false, .bool false, .bool true, .bool false]) (d := .bool true) (n := 8) (by decide) (by decide) (by decide)]
theorem kind_TooLong (b : Addr) (m : M) : ∃ sl, G_law_kind b "TooLong" ⟨[.no, .v (.adr b), .no, .no, .no], m⟩ = .rt (.d (.str "TooLong")) ⟨sl, m⟩ := by
  refine ⟨[.no, .v (.adr b), .v (.d (.list [.bool false, .bool false, .bool false, .bool false, .bool false, .bool false, .bool false, .bool false, .bool false, .bool true])), .own [.d (.str "BadKeys"), .d (.str "BadTape"), .d (.str "BadText"), .d (.str "BadKey"), .d (.str "BadName"), .d (.str "BadNames"), .d (.str "BadNumbers"), .d (.str "Taping"), .d (.str "NotTaping"), .d (.str "TooLong")], .v (.d (.int 9))], ?_⟩
  unfold G_law_kind
  simp only [show decide (("TooLong" : Str) = "BadKeys") = false from by decide, show decide (("TooLong" : Str) = "BadTape") = false from by decide, show decide (("TooLong" : Str) = "BadText") = false from by decide, show decide (("TooLong" : Str) = "BadKey") = false from by decide, show decide (("TooLong" : Str) = "BadName") = false from by decide, show decide (("TooLong" : Str) = "BadNames") = false from by decide, show decide (("TooLong" : Str) = "BadNumbers") = false from by decide, show decide (("TooLong" : Str) = "Taping") = false from by decide, show decide (("TooLong" : Str) = "NotTaping") = false from by decide, show decide (("TooLong" : Str) = "TooLong") = true from by decide]
  simp_arith only [y_isE, y_kIsE, x_how (ds := [.bool false, .bool false, .bool false, .bool false, .bool false, .bool false, .bool false, .bool false, .bool false, .bool true]) (d := .bool true) (n := 1) (by decide) (by decide) (by decide), x_ixD (ds := [.bool false, .bool false, .bool false, .bool false, .bool false, .bool false, .bool false, .bool false, .bool false, .bool true]) (d := .bool true) (n := 9) (by decide) (by decide) (by decide)]
theorem kind_eval (b : Addr) (c wd : Str) (m : M) (h : kndWord c = some wd) : ∃ sl, G_law_kind b c ⟨kslots 5 1 b, m⟩ = .rt (.d (.str wd)) ⟨sl, m⟩ := by
  have hk : kslots 5 1 b = [.no, .v (.adr b), .no, .no, .no] := rfl
  rw [hk]
  unfold kndWord at h
  split at h
  · rename_i q
    cases h
    rcases q with q | q | q | q | q | q | q | q <;> subst q
    · exact kind_BadText b m
    · exact kind_BadKey b m
    · exact kind_BadName b m
    · exact kind_BadNames b m
    · exact kind_BadNumbers b m
    · exact kind_Taping b m
    · exact kind_NotTaping b m
    · exact kind_TooLong b m
  · cases h
def stl (r : List Str) : List W := (r.map PyData.str).map W.d
theorem stl_len {r : List Str} : (stl r).length = r.length := by simp [stl]
theorem stl_app {r r' : List Str} : stl (r ++ r') = stl r ++ stl r' := by simp [stl]
theorem stl_one {x : Str} : stl [x] = [W.d (.str x)] := rfl
theorem stl_take {r : List Str} {n : Nat} : (stl r).take n = stl (r.take n) := by simp [stl, List.map_take]
theorem stl_drop {r : List Str} {n : Nat} : (stl r).drop n = stl (r.drop n) := by simp [stl, List.map_drop]
theorem stl_frees {r : List Str} : frees (stl r) = true := frees_map _
theorem stl_get {r : List Str} {n : Nat} (h : n < r.length) : (stl r)[n]? = some (.d (.str r[n])) := by simp [stl, h]
theorem stl_erase {r : List Str} {n : Nat} : (stl r).eraseIdx n = stl (r.eraseIdx n) := by simp [stl, List.eraseIdx_eq_take_drop_succ, List.map_take, List.map_drop]
theorem stl_allD {r : List Str} : allD (stl r) = some (r.map .str) := allD_map _
theorem stl_data {r : List Str} : mkL (stl r) = .d (.list (r.map .str)) := mkL_map _
theorem stl_filter {p : W → Bool} {q : Str → Bool} (h : ∀ z, p (.d (.str z)) = q z) {r : List Str} : (stl r).filter p = stl (r.filter q) := by
  induction r with
  | nil => rfl
  | cons z r ih =>
    show List.filter p (W.d (.str z) :: stl r) = _
    rw [List.filter_cons, List.filter_cons, ih, h z]
    split <;> rfl
theorem stl_mem {r : List Str} {x : W} (h : x ∈ stl r) : ∃ z ∈ r, x = .d (.str z) := by
  obtain ⟨d, hd, rfl⟩ := List.mem_map.mp h
  obtain ⟨z, hz, rfl⟩ := List.mem_map.mp hd
  exact ⟨z, hz, rfl⟩
theorem signs_stl (z : Str) : signs z = stl (chs z) := by rw [signs_eq, stl, List.map_map]; rfl
theorem chs_mem {z t : Str} (h : t ∈ chs z) : ∃ c, t = ⟨#[c]⟩ ∧ c ∈ z.cps.toList := by
  obtain ⟨c, hc, rfl⟩ := List.mem_map.mp h
  exact ⟨c, rfl, hc⟩
theorem chs_all {p : Nat → Bool} {z : Str} : ((chs z).filter fun t => !t.cps.toList.all p).isEmpty = z.cps.toList.all p := by
  unfold chs
  generalize z.cps.toList = cs
  induction cs with
  | nil => rfl
  | cons c cs ih =>
    have : ((⟨#[c]⟩ : Str).cps.toList.all p) = p c := by simp
    rw [List.map_cons, List.filter_cons, this]
    cases hp : p c with
    | true =>
      rw [List.all_cons, hp, Bool.true_and]
      exact ih
    | false =>
      rw [List.all_cons, hp]
      rfl
theorem lenc {α : Type} {x : α} {xs : List α} {k : Int} : (((x :: xs).length : Nat) : Int) = ((xs.length : Nat) : Int) + 1 := by
  rw [List.length_cons]
  omega
theorem rowOf_len (cs : List Nat) : (rowOf cs).length = cs.length := by simp [rowOf, Str.length]
theorem max_int {a b : Nat} : (if ((b : Nat) : Int) > ((a : Nat) : Int) then ((b : Nat) : Int) else ((a : Nat) : Int)) = ((max a b : Nat) : Int) := by
  split
  · rw [Nat.max_eq_right (by omega)]
  · rw [Nat.max_eq_left (by omega)]
/-- the table of the law's lambda -/
def TB : B := .tbl "law" "law.<locals>.<lambda>"
def dm (cs : List Int) (x a : Int) (rest : M) : M := TB :: .lst (cs.map fun n => .d (.int n)) :: .lst [.d (.int x), .ref 1, .d (.int a)] :: rest
/-- what is drawn from -/
structure Dr where
  cs : List Int
  x : Int
  a : Int
def dr (d : Dr) (rest : M) : M := dm d.cs d.x d.a rest
def Dr.at_ (d : Dr) : Nat := (d.a % (if (d.cs.length : Int) > 1 then (d.cs.length : Int) else 1)).toNat
def Dr.cell (d : Dr) : Int := d.cs[d.at_]?.getD 0
def Dr.mix (d : Dr) : Int := (d.x * 48271 + d.cell * 69621 + 11) % 2147483647
/-- the number that is drawn, the draws behind it -/
def nx (d : Dr) (n : Int) : Int := if 1000000000000000000 ≤ d.cell then d.cell % n else d.mix / 7 % n
def st (d : Dr) (n : Int) : Dr := if 1000000000000000000 ≤ d.cell then ⟨d.cs.set d.at_ (d.cell / n), d.x, d.a⟩ else ⟨d.cs, d.mix, d.a + 1⟩
theorem nx_lo {d : Dr} {n : Int} (h0 : 0 < n) : 0 ≤ nx d n := by
  unfold nx
  split <;> exact Int.emod_nonneg _ (by omega)
theorem nx_hi {d : Dr} {n : Int} (h0 : 0 < n) : nx d n < n := by
  unfold nx
  split <;> exact Int.emod_lt_of_pos _ h0
theorem dr_len {d : Dr} {rest : M} : (dr d rest).length = rest.length + 3 := rfl
theorem dr_get {d : Dr} {rest : M} {k : Nat} : (dr d rest)[k + 3]? = rest[k]? := by
  unfold dr dm
  rw [List.getElem?_cons_succ, List.getElem?_cons_succ, List.getElem?_cons_succ]
theorem dr_app {d : Dr} {rest l : M} : dr d rest ++ l = dr d (rest ++ l) := rfl
/-- the draws stand where the first three boxes do -/
theorem dr_of {d : Dr} {rest m : M} (h0 : m[0]? = (dr d rest)[0]?) (h1 : m[1]? = (dr d rest)[1]?) (h2 : m[2]? = (dr d rest)[2]?) : ∃ rest', m = dr d rest' := by
  match m, h0, h1, h2 with
  | a :: b :: c :: r, h0, h1, h2 =>
    refine ⟨r, ?_⟩
    have h0 : some a = some _ := h0
    have h1 : some b = some _ := h1
    have h2 : some c = some _ := h2
    injection h0 with h0
    injection h1 with h1
    injection h2 with h2
    rw [h0, h1, h2]
    rfl
/-- a comprehension whose head draws -/
theorem loopC_dr {sl : List Sl} {i : Nat} {e : EF} {rest : M} {Q : W → Prop} (hsl : sl[i]? = some .no) (he : ∀ w d, ∃ d' v, e ⟨sl.set i (.v w), dr d rest⟩ = .ok v ⟨sl.set i (.v w), dr d' rest⟩ ∧ free v = true ∧ Q v) :
    ∀ (ws : List W) (d : Dr), ∃ d' vs, loopC i cT e ws ⟨sl, dr d rest⟩ = .ok vs ⟨sl, dr d' rest⟩ ∧ vs.length = ws.length ∧ ∀ v ∈ vs, Q v
  | [], d => ⟨d, [], rfl, rfl, fun _ h => by cases h⟩
  | w :: ws, d => by
    obtain ⟨d1, v, e1, f1, q1⟩ := he w d
    obtain ⟨d2, vs, e2, l2, q2⟩ := loopC_dr hsl he ws d1
    refine ⟨d2, v :: vs, ?_, by rw [List.length_cons, List.length_cons, l2], fun u hu => ?_⟩
    · simp only [loopC, cT, e1, f1, if_true, List.set_set, set_no hsl, e2]
    · rcases List.mem_cons.mp hu with rfl | hu
      · exact q1
      · exact q2 u hu
theorem pick {z : Str} {n : Int} (hz : (z.cps.toList.length : Int) = n) (hs : z.cps.toList.all signOk = true) (d : Dr) (h0 : 0 < n) : ∃ c, z.cps.toList[(nx d n).toNat]? = some c ∧ signOk c = true := by
  have h1 := nx_lo (d := d) h0
  have h2 := nx_hi (d := d) h0
  have h3 : (nx d n).toNat < z.cps.toList.length := by omega
  exact ⟨_, List.getElem?_eq_getElem h3, List.all_eq_true.mp hs _ (List.getElem_mem h3)⟩
/-- one of a list -/
theorem pickL {α : Type} {P : α → Prop} (xs : List α) {n : Int} (hn : (xs.length : Int) = n) (d : Dr) (h0 : 0 < n) (h : ∀ x ∈ xs, P x) : ∃ x, xs[(nx d n).toNat]? = some x ∧ P x := by
  have h1 := nx_lo (d := d) h0
  have h2 := nx_hi (d := d) h0
  have h3 : (nx d n).toNat < xs.length := by omega
  exact ⟨_, List.getElem?_eq_getElem h3, h _ (List.getElem_mem h3)⟩
def every : Str := Str.ofString " !\"#$&'()*+,-./0123456789:;<=>?@ABCDEFGHIJKLMNOPQRSTUVWXYZ[\\]^_`abcdefghijklmnopqrstuvwxyz{|}~"
/-- signs one by one are a row -/
theorem row_of : ∀ {vs : List W}, (∀ v ∈ vs, ∃ c, v = .d (.str ⟨#[c]⟩) ∧ signOk c = true) → ∃ cs : List Nat, vs = stl (cs.map fun c => ⟨#[c]⟩) ∧ cs.length = vs.length ∧ ∀ c ∈ cs, signOk c = true
  | [], _ => ⟨[], rfl, rfl, fun _ h => by cases h⟩
  | v :: vs, h => by
    obtain ⟨c, rfl, hc⟩ := h v List.mem_cons_self
    obtain ⟨cs, rfl, l, g⟩ := row_of fun v hv => h v (List.mem_cons_of_mem _ hv)
    refine ⟨c :: cs, rfl, by rw [List.length_cons, List.length_cons, l], fun x hx => ?_⟩
    rcases List.mem_cons.mp hx with rfl | hx
    · exact hc
    · exact g x hx
/-- a sheet: its rows' signs, the place, the clip -/
structure Sht where
  rows : List (List Nat)
  row : Nat
  col : Nat
  held : List Nat
def rowsW (rs : List (List Nat)) : List W := stl (rs.map rowOf)
def shI (r : Nat) (row col : Int) (held : Str) : B := .ins (Str.ofString "Sheet") [(Str.ofString "rows", .ref r), (Str.ofString "row", .d (.int row)), (Str.ofString "column", .d (.int col)), (Str.ofString "held", .d (.str held))]
structure Sh (m : M) (s r : Nat) (σ : Sht) : Prop where
  ins : m[s]? = some (shI r σ.row σ.col (rowOf σ.held))
  lst : m[r]? = some (.lst (rowsW σ.rows))
  ne : s ≠ r
structure Sht.ok (σ : Sht) : Prop where
  many : σ.rows.length ≤ 12
  row : σ.row < σ.rows.length
  len : ∀ cs ∈ σ.rows, cs.length ≤ 60
  col : σ.col ≤ (σ.rows[σ.row]).length
  held : σ.held.length ≤ 60
/-- nothing else changed -/
def Fra (s r : Nat) (m m' : M) : Prop := m'.length = m.length ∧ ∀ k, k ≠ s → k ≠ r → m'[k]? = m[k]?
theorem Fra.refl {s r : Nat} {m : M} : Fra s r m m := ⟨rfl, fun _ _ _ => rfl⟩
theorem Fra.trans {s r : Nat} {m m1 m2 : M} (a : Fra s r m m1) (b : Fra s r m1 m2) : Fra s r m m2 := ⟨b.1.trans a.1, fun k h1 h2 => (b.2 k h1 h2).trans (a.2 k h1 h2)⟩
theorem rowsW_len {rs : List (List Nat)} : (rowsW rs).length = rs.length := by simp [rowsW, stl_len]
theorem rowsW_get {rs : List (List Nat)} {n : Nat} (h : n < rs.length) : (rowsW rs)[n]? = some (.d (.str (rowOf rs[n]))) := by simp [rowsW, stl, h]
theorem rowsW_set {rs : List (List Nat)} {n : Nat} {cs : List Nat} : (rowsW rs).set n (.d (.str (rowOf cs))) = rowsW (rs.set n cs) := by simp [rowsW, stl, List.map_set]
theorem rowOf_cut {cs : List Nat} {a b : Option Int} : (⟨(cutA (rowOf cs).cps.toList a b).toArray⟩ : Str) = rowOf (cutA cs a b) := by simp [rowOf]
theorem rowOf_app {a b : List Nat} : rowOf a ++ rowOf b = rowOf (a ++ b) := by
  show Str.mk _ = Str.mk _
  congr 1
  simp [rowOf]
theorem getElem?_lt {m : M} {k : Nat} {b : B} (h : m[k]? = some b) : k < m.length := (List.getElem?_eq_some_iff.mp h).1
def Sht.here (σ : Sht) : List Nat := σ.rows[σ.row]?.getD []
theorem here_eq {σ : Sht} (h : σ.ok) : σ.here = σ.rows[σ.row]'h.row := by simp [Sht.here, h.row]
theorem Sh.put {m : M} {s r : Nat} {σ : Sht} (h : Sh m s r σ) (τ : Sht) : Sh ((m.set r (.lst (rowsW τ.rows))).set s (shI r τ.row τ.col (rowOf τ.held))) s r τ ∧ Fra s r m ((m.set r (.lst (rowsW τ.rows))).set s (shI r τ.row τ.col (rowOf τ.held))) := by
  have h1 := getElem?_lt h.ins
  have h2 := getElem?_lt h.lst
  refine ⟨⟨?_, ?_, h.ne⟩, ?_, fun k a b => ?_⟩
  · rw [List.getElem?_set_self (by rw [List.length_set]; exact h1)]
  · rw [List.getElem?_set_ne h.ne, List.getElem?_set_self h2]
  · rw [List.length_set, List.length_set]
  · rw [List.getElem?_set_ne (Ne.symm a), List.getElem?_set_ne (Ne.symm b)]
theorem Sh.put1 {m : M} {s r : Nat} {σ : Sht} (h : Sh m s r σ) (a b : Nat) (held : List Nat) : Sh (m.set s (shI r a b (rowOf held))) s r ⟨σ.rows, a, b, held⟩ ∧ Fra s r m (m.set s (shI r a b (rowOf held))) := by
  have h1 := getElem?_lt h.ins
  refine ⟨⟨?_, ?_, h.ne⟩, ?_, fun k a b => ?_⟩
  · rw [List.getElem?_set_self h1]
  · rw [List.getElem?_set_ne h.ne, h.lst]
  · rw [List.length_set]
  · rw [List.getElem?_set_ne (Ne.symm a)]
/-- signs put in at the place -/
def Sht.laid (σ : Sht) (z : List Nat) : Option Sht := if σ.here.length + z.length > 60 then none else some { σ with rows := σ.rows.set σ.row (σ.here.take σ.col ++ z ++ σ.here.drop σ.col), col := σ.col + z.length }
/-- what a step of a sheet tells -/
def Does (F : FF) (ws : List W) (m : M) (s r : Nat) (σ : Sht) (o : Option Sht) : Prop := ∃ m', F ws m = .ok (.d (.bool o.isSome)) m' ∧ Sh m' s r (o.getD σ) ∧ Fra s r m m'
/-- the place put elsewhere -/
def Sht.at_ (σ : Sht) (a b : Nat) : Sht := { σ with row := a, col := b }
def Sht.len (σ : Sht) (n : Nat) : Nat := (σ.rows[n]?.getD []).length
inductive Mv where
  | left | right | up | down | home | fin
def Mv.word : Mv → Str
  | .left => Str.ofString "left"
  | .right => Str.ofString "right"
  | .up => Str.ofString "up"
  | .down => Str.ofString "down"
  | .home => Str.ofString "home"
  | .fin => Str.ofString "end"
def Sht.move (σ : Sht) : Mv → Option Sht
  | .home => some (σ.at_ σ.row 0)
  | .fin => some (σ.at_ σ.row σ.here.length)
  | .left => if 0 < σ.col then some (σ.at_ σ.row (σ.col - 1)) else if 0 < σ.row then some (σ.at_ (σ.row - 1) (σ.len (σ.row - 1))) else none
  | .right => if σ.col < σ.here.length then some (σ.at_ σ.row (σ.col + 1)) else if σ.row + 1 < σ.rows.length then some (σ.at_ (σ.row + 1) 0) else none
  | .up => if 0 < σ.row then some (σ.at_ (σ.row - 1) (min σ.col (σ.len (σ.row - 1)))) else none
  | .down => if σ.row + 1 < σ.rows.length then some (σ.at_ (σ.row + 1) (min σ.col (σ.len (σ.row + 1)))) else none
theorem min_int {a b : Nat} : (if (b : Int) < (a : Int) then (b : Int) else (a : Int)) = ((min a b : Nat) : Int) := by
  split <;> omega
def Sht.part (σ : Sht) : Option Sht := if σ.rows.length = 12 then none else some { σ with rows := σ.rows.take σ.row ++ [σ.here.take σ.col, σ.here.drop σ.col] ++ σ.rows.drop (σ.row + 1), row := σ.row + 1, col := 0 }
def Sht.rub (σ : Sht) : Option Sht :=
  if 0 < σ.col then some { σ with rows := σ.rows.set σ.row (σ.here.take (σ.col - 1) ++ σ.here.drop σ.col), col := σ.col - 1 }
  else if σ.row = 0 ∨ σ.len (σ.row - 1) + σ.here.length > 60 then none
  else some { σ with rows := σ.rows.take (σ.row - 1) ++ [σ.rows[σ.row - 1]?.getD [] ++ σ.here] ++ σ.rows.drop (σ.row + 1), row := σ.row - 1, col := σ.len (σ.row - 1) }
theorem rowsW_app {a b : List (List Nat)} : rowsW a ++ rowsW b = rowsW (a ++ b) := by simp [rowsW, stl]
theorem rowsW_take {a : List (List Nat)} {n : Nat} : (rowsW a).take n = rowsW (a.take n) := by simp [rowsW, stl, List.map_take]
theorem rowsW_drop {a : List (List Nat)} {n : Nat} : (rowsW a).drop n = rowsW (a.drop n) := by simp [rowsW, stl, List.map_drop]
theorem rowsW_i1 {A B : List (List Nat)} {a : List Nat} : rowsW A ++ [W.d (.str (rowOf a))] ++ rowsW B = rowsW (A ++ [a] ++ B) := by simp [rowsW, stl]
theorem rowsW_i2 {A B : List (List Nat)} {a b : List Nat} : rowsW A ++ [W.d (.str (rowOf a)), W.d (.str (rowOf b))] ++ rowsW B = rowsW (A ++ [a, b] ++ B) := by simp [rowsW, stl]
/-- the rows put, then the place -/
theorem Sh.put2 {m : M} {s r : Nat} {σ : Sht} (h : Sh m s r σ) (R : List (List Nat)) (a b : Nat) (held : List Nat) : Sh ((m.set r (.lst (rowsW R))).set s (shI r a b (rowOf held))) s r ⟨R, a, b, held⟩ ∧ Fra s r m ((m.set r (.lst (rowsW R))).set s (shI r a b (rowOf held))) := h.put ⟨R, a, b, held⟩
theorem app_at {m l : M} {k : Nat} {b : B} (h : m[k]? = some b) : (m ++ l)[k]? = some b := by rw [List.getElem?_append_left (getElem?_lt h), h]
theorem rowsW_frees {R : List (List Nat)} : frees (rowsW R) = true := stl_frees
theorem here_mem {σ : Sht} (h : σ.ok) : σ.here ∈ σ.rows := by rw [here_eq h]; exact List.getElem_mem _
def sgR (R : List (List Nat)) : Prop := ∀ cs ∈ R, ∀ c ∈ cs, signOk c = true
def rowsD (R : List (List Nat)) : PyData := .list ((R.map rowOf).map .str)
theorem row_strOk {cs : List Nat} (h : ∀ c ∈ cs, signOk c = true) : PyData.strOk (rowOf cs) = true := by
  have : ∀ c ∈ cs, c < 127 := fun c hc => by
    have h' := Bool.and_eq_true_iff.mp (h c hc)
    have := of_decide_eq_true h'.2
    omega
  show (cs.toArray.all fun x => decide (x < 0x110000)) = true
  rw [List.all_toArray, List.all_eq_true]
  intro c hc
  have := this c hc
  simp
  omega
theorem rows_okD {R : List (List Nat)} (h : sgR R) : okD (rowsD R) := okD_list fun d hd => by
  obtain ⟨z, hz, rfl⟩ := List.mem_map.mp hd
  obtain ⟨cs, hcs, rfl⟩ := List.mem_map.mp hz
  exact ⟨okD_str (row_strOk (h cs hcs)), Nat.zero_le _⟩
theorem rowsD_inj {R R' : List (List Nat)} : rowsD R = rowsD R' ↔ R = R' := by
  refine ⟨fun h => ?_, fun h => by rw [h]⟩
  unfold rowsD at h
  injection h with h
  have h1 := (List.map_inj_right (fun a b h => by injection h)).mp h
  exact (List.map_inj_right (fun a b h => by
    unfold rowOf at h
    injection h with h
    injection h)).mp h1
theorem eq_rows {n : Bool} {a b : Nat} {sl : List Sl} {m : M} {R R' : List (List Nat)} (ha : m[a]? = some (.lst (rowsW R))) (hb : m[b]? = some (.lst (rowsW R'))) (ga : sgR R) (gb : sgR R') :
    oEqD n (.ref a) (.ref b) ⟨sl, m⟩ = .ok (.d (.bool (if n = true then !decide (R = R') else decide (R = R')))) ⟨sl, m⟩ := by
  have t1 : toD ⟨sl, m⟩ (.ref a) = some (rowsD R) := by
    simp only [toD, readL, ha]
    show (allD (stl _)).map _ = _
    rw [stl_allD]
    rfl
  have t2 : toD ⟨sl, m⟩ (.ref b) = some (rowsD R') := by
    simp only [toD, readL, hb]
    show (allD (stl _)).map _ = _
    rw [stl_allD]
    rfl
  have k1 := rows_okD ga
  have k2 := rows_okD gb
  have e1 : okDb (rowsD R) = true := Bool.and_eq_true_iff.mpr k1
  have e2 : okDb (rowsD R') = true := Bool.and_eq_true_iff.mpr k2
  have ev : PyData.eqv (rowsD R) (rowsD R') = decide (R = R') := by
    by_cases h : R = R'
    · rw [eqv_yes k1 k2 (by rw [h]), decide_eq_true h]
    · rw [eqv_no k1 k2 (fun z => h (rowsD_inj.mp z)), decide_eq_false h]
  simp only [oEqD, t1, t2, e1, e2, and_self, if_true, ev]
/-- a text of rows -/
def txt (R : List (List Nat)) : Str := Txt.join (Str.ofString "\n") (R.map rowOf)
theorem split_txt {R : List (List Nat)} (hne : R ≠ []) (g : sgR R) : Txt.split (txt R) (Str.ofString "\n") = R.map rowOf := by
  refine TL.split_join (s := 10) (S := []) (by decide +kernel) (by decide +kernel) (fun h => hne (List.map_eq_nil_iff.mp h)) fun p hp => ?_
  obtain ⟨cs, hcs, rfl⟩ := List.mem_map.mp hp
  intro h10
  have h10 : 10 ∈ cs := by simpa [rowOf] using h10
  have := g cs hcs 10 h10
  revert this
  decide
theorem txt_sum : ∀ {R : List (List Nat)}, (∀ cs ∈ R, cs.length ≤ 60) → ((R.map rowOf).map (·.length)).sum ≤ 60 * R.length
  | [], _ => Nat.le_refl _
  | cs :: R, h => by
    have h1 := h cs List.mem_cons_self
    have h2 := txt_sum (R := R) fun c hc => h c (List.mem_cons_of_mem _ hc)
    rw [List.map_cons, List.map_cons, List.sum_cons, rowOf_len, List.length_cons]
    omega
theorem txt_fit {R : List (List Nat)} (h12 : R.length ≤ 12) (h60 : ∀ cs ∈ R, cs.length ≤ 60) : ((R.map rowOf).map (·.length)).sum + (R.map rowOf).length * (Str.ofString "\n").length ≤ 1000000 := by
  have := txt_sum h60
  have e : (Str.ofString "\n").length = 1 := by decide +kernel
  rw [e, List.length_map]
  omega
theorem txt_len {R : List (List Nat)} (h12 : R.length ≤ 12) (h60 : ∀ cs ∈ R, cs.length ≤ 60) : (txt R).length ≤ 1000 := by
  have h1 := txt_sum h60
  have h2 := StrLaws.join_length_le (Str.ofString "\n") (R.map rowOf)
  have e : (Str.ofString "\n").length = 1 := by decide +kernel
  have e2 : txt R = Str.join (Str.ofString "\n") (R.map rowOf) := TL.join_eq _ _
  rw [e, List.length_map] at h2
  rw [e2]
  omega
theorem sp_txt {R : List (List Nat)} {s : S} (hne : R ≠ []) (g : sgR R) (h12 : R.length ≤ 12) (h60 : ∀ cs ∈ R, cs.length ≤ 60) : kSp2 (txt R) (.ok (.d (.str (Str.ofString "\n"))) s) = .ok (stl (R.map rowOf)) s := by
  have := txt_len h12 h60
  rw [y_kSp2 (by decide +kernel) (by omega), split_txt hne g]
  show FE.R.ok (List.map (W.d ∘ PyData.str) (R.map rowOf)) s = _
  rw [← List.map_map]
  rfl
/-! keys -/
inductive Bare where
  | brk | rub | left | right | up | down | home | fin | take | lay
def Bare.word : Bare → Str
  | .brk => Str.ofString "break"
  | .rub => Str.ofString "rub"
  | .left => Str.ofString "left"
  | .right => Str.ofString "right"
  | .up => Str.ofString "up"
  | .down => Str.ofString "down"
  | .home => Str.ofString "home"
  | .fin => Str.ofString "end"
  | .take => Str.ofString "take"
  | .lay => Str.ofString "lay"
inductive Ky where
  | put (c : Nat) | find (w : List Nat) | play (n k : Nat) | till (n : Nat) | bare (b : Bare)
def Ky.word : Ky → Str
  | .put _ => Str.ofString "put"
  | .find _ => Str.ofString "find"
  | .play _ _ => Str.ofString "play"
  | .till _ => Str.ofString "till"
  | .bare b => b.word
def Ky.rest : Ky → List PyData
  | .put c => [.str (rowOf [c])]
  | .find w => [.str (rowOf w)]
  | .play n k => [.str (rowOf [n]), .int k]
  | .till n => [.str (rowOf [n])]
  | .bare _ => []
def Ky.data (k : Ky) : PyData := .tuple (.str k.word :: k.rest)
def nameOk (n : Nat) : Prop := 97 ≤ n ∧ n ≤ 104
def Ky.ok : Ky → Prop
  | .put c => signOk c = true
  | .find w => 1 ≤ w.length ∧ w.length ≤ 4 ∧ ∀ c ∈ w, signOk c = true
  | .play n k => nameOk n ∧ 1 ≤ k ∧ k ≤ 9
  | .till n => nameOk n
  | .bare _ => True
theorem name_isName {n : Nat} (h : nameOk n) : isName (.str (rowOf [n])) = true := by
  obtain ⟨h1, h2⟩ := h
  have e : (rowOf [n]).cps.toList = [n] := by simp [rowOf]
  simp [isName, rowOf_len, e]
  omega
theorem short_row {w : List Nat} (h : w.length ≤ 100000) : shortS (.str (rowOf w)) := fun z hz => by
  injection hz with hz
  subst hz
  rw [rowOf_len]
  exact h
theorem signs_row {w : List Nat} {lo hi : Int} (h1 : lo ≤ w.length) (h2 : (w.length : Int) ≤ hi) (h : ∀ c ∈ w, signOk c = true) : areSigns (.str (rowOf w)) lo hi = true := by
  have e : (rowOf w).cps.toList = w := by simp [rowOf]
  have ha : w.all signOk = true := List.all_eq_true.mpr h
  simp only [areSigns, rowOf_len, e, ha, Bool.and_true, Bool.and_eq_true, decide_eq_true_eq]
  exact ⟨h1, h2⟩
theorem bare_key (b : Bare) : isKey (Ky.bare b).data = true := by cases b <;> decide +kernel
theorem short_word (k : Ky) : k.word.length ≤ 10 := by
  cases k with
  | bare b => cases b <;> decide +kernel
  | _ => show (Str.ofString _).length ≤ 10; decide +kernel
theorem Ky.is_key {k : Ky} (h : k.ok) : isKey k.data = true := by
  cases k with
  | put c =>
    have e := signs_row (w := [c]) (lo := 1) (hi := 1) (by simp) (by simp) (fun x hx => by rw [List.mem_singleton.mp hx]; exact h)
    show isKey (.tuple [.str (Str.ofString "put"), .str (rowOf [c])]) = true
    simp_arith only [isKey, arg1, e]
  | find w =>
    have e := signs_row (w := w) (lo := 1) (hi := 4) (by have := h.1; omega) (by have := h.2.1; omega) h.2.2
    show isKey (.tuple [.str (Str.ofString "find"), .str (rowOf w)]) = true
    simp_arith only [isKey, arg1, e]
  | play n k =>
    have e := name_isName h.1
    have e2 : isNumber (.int k) 1 9 = true := by
      simp only [isNumber, Bool.and_eq_true, decide_eq_true_eq]
      have := h.2
      omega
    show isKey (.tuple [.str (Str.ofString "play"), .str (rowOf [n]), .int k]) = true
    simp_arith only [isKey, arg2, e, e2]
  | till n =>
    have e := name_isName h
    show isKey (.tuple [.str (Str.ofString "till"), .str (rowOf [n])]) = true
    simp_arith only [isKey, arg1, e]
  | bare b => exact bare_key b
theorem Ky.short {k : Ky} (h : k.ok) : shortK k.data := fun ds e x hx => by
  injection e with e
  subst e
  rcases List.mem_cons.mp hx with rfl | hx
  · intro z hz
    injection hz with hz
    subst hz
    have := short_word k
    omega
  · cases k with
    | put c => rw [List.mem_singleton.mp hx]; exact short_row (by simp)
    | find w => rw [List.mem_singleton.mp hx]; exact short_row (by have := h.2.1; omega)
    | play n k =>
      simp only [Ky.rest, List.mem_cons, List.not_mem_nil, or_false] at hx
      rcases hx with rfl | rfl
      · exact short_row (by simp)
      · intro z hz; cases hz
    | till n => rw [List.mem_singleton.mp hx]; exact short_row (by simp)
    | bare b => cases hx
/-! what a key does on a sheet -/
def letter (c : Nat) : Bool := decide (97 ≤ c) && decide (c ≤ 122)
def Sht.taken (σ : Sht) : Option Sht :=
  let w := (σ.here.drop σ.col).takeWhile letter
  if w.length = 0 then none else some { σ with rows := σ.rows.set σ.row (σ.here.take σ.col ++ σ.here.drop (σ.col + w.length)), held := w }
def hits (cs w : List Nat) (i : Nat) : Bool := (cs.drop i).take w.length == w
def findFrom (cs w : List Nat) (p0 : Nat) : Option Nat := (List.range' p0 (cs.length - p0)).find? (hits cs w)
def findRows (w : List Nat) : List (List Nat) → Nat → Nat → Option (Nat × Nat)
  | [], _, _ => none
  | cs :: R, n, p0 => match findFrom cs w p0 with
    | some c => some (n, c)
    | none => findRows w R (n + 1) 0
def Sht.found (σ : Sht) (w : List Nat) : Option Sht := (findRows w (σ.rows.drop σ.row) σ.row (σ.col + 1)).map fun p => σ.at_ p.1 p.2
def Sht.do1 (σ : Sht) : Ky → Option Sht
  | .put c => σ.laid [c]
  | .find w => σ.found w
  | .play _ _ => none
  | .till _ => none
  | .bare .brk => σ.part
  | .bare .rub => σ.rub
  | .bare .left => σ.move .left
  | .bare .right => σ.move .right
  | .bare .up => σ.move .up
  | .bare .down => σ.move .down
  | .bare .home => σ.move .home
  | .bare .fin => σ.move .fin
  | .bare .take => σ.taken
  | .bare .lay => if σ.held.length = 0 then none else σ.laid σ.held
/-- a single key -/
def Ky.single : Ky → Prop
  | .play _ _ => False
  | .till _ => False
  | _ => True
/-- all signs are such as are told -/
structure Sht.sg (σ : Sht) : Prop where
  rows : sgR σ.rows
  held : ∀ c ∈ σ.held, signOk c = true
/-- a step keeps a sheet a sheet -/
theorem laid_ok {σ τ : Sht} {z : List Nat} (o : σ.ok) (h : σ.laid z = some τ) : τ.ok := by
  unfold Sht.laid at h
  split at h
  · cases h
  · rename_i c
    cases h
    have hcol : σ.col ≤ σ.here.length := by rw [here_eq o]; exact o.col
    refine ⟨by simpa using o.many, by simpa using o.row, fun cs hcs => ?_, ?_, o.held⟩
    · rcases List.mem_or_eq_of_mem_set hcs with h | h
      · exact o.len cs h
      · subst h
        simp
        omega
    · simp
      omega
theorem rub_ok_ {σ τ : Sht} (o : σ.ok) (h : σ.rub = some τ) : τ.ok := by
  have hcol : σ.col ≤ σ.here.length := by rw [here_eq o]; exact o.col
  have e60 : σ.here.length ≤ 60 := by rw [here_eq o]; exact o.len _ (List.getElem_mem o.row)
  have hrow := o.row
  have hm := o.many
  unfold Sht.rub at h
  split at h
  · rename_i c
    cases h
    refine ⟨by simpa using o.many, by simpa using o.row, fun cs hcs => ?_, ?_, o.held⟩
    · rcases List.mem_or_eq_of_mem_set hcs with h | h
      · exact o.len cs h
      · subst h
        simp
        omega
    · simp
      omega
  · rename_i c
    split at h
    · cases h
    · rename_i d
      cases h
      unfold Sht.len at *
      have d1 : ¬ σ.row = 0 := fun z => d (.inl z)
      have d2 : ¬ (σ.rows[σ.row - 1]?.getD []).length + σ.here.length > 60 := fun z => d (.inr z)
      refine ⟨by simp; omega, by simp; omega, fun cs hcs => ?_, ?_, o.held⟩
      · simp only [List.mem_append, List.mem_singleton] at hcs
        rcases hcs with (h | h) | h
        · exact o.len cs (List.mem_of_mem_take h)
        · subst h
          simp
          omega
        · exact o.len cs (List.mem_of_mem_drop h)
      · have l1 : (σ.rows.take (σ.row - 1)).length = σ.row - 1 := by simp; omega
        simp only [List.append_assoc]
        rw [List.getElem_append_right (by omega)]
        simp only [l1, Nat.sub_self]
        simp
theorem move_ok {σ τ : Sht} {k : Mv} (o : σ.ok) (h : σ.move k = some τ) : τ.ok := by
  have hcol : σ.col ≤ σ.here.length := by rw [here_eq o]; exact o.col
  have hrow := o.row
  have key : ∀ a b : Nat, a < σ.rows.length → b ≤ σ.len a → (σ.at_ a b).ok := fun a b h1 h2 => ⟨o.many, h1, o.len, by
    unfold Sht.len at h2
    simp only [Sht.at_]
    rw [List.getElem?_eq_getElem h1] at h2
    exact h2, o.held⟩
  have hl : σ.len σ.row = σ.here.length := rfl
  cases k <;> simp only [Sht.move] at h
  · split at h
    · cases h
      exact key _ _ hrow (by omega)
    · split at h
      · cases h
        exact key _ _ (by omega) (Nat.le_refl _)
      · cases h
  · split at h
    · cases h
      exact key _ _ hrow (by omega)
    · split at h
      · cases h
        exact key _ _ (by omega) (Nat.zero_le _)
      · cases h
  · split at h
    · cases h
      exact key _ _ (by omega) (Nat.min_le_right _ _)
    · cases h
  · split at h
    · cases h
      exact key _ _ (by omega) (Nat.min_le_right _ _)
    · cases h
  · cases h
    exact key _ _ hrow (Nat.zero_le _)
  · cases h
    exact key _ _ hrow (Nat.le_refl _)
theorem at_ok {σ : Sht} (o : σ.ok) {a b : Nat} (h1 : a < σ.rows.length) (h2 : b ≤ σ.len a) : (σ.at_ a b).ok := ⟨o.many, h1, o.len, by
  unfold Sht.len at h2
  simp only [Sht.at_]
  rw [List.getElem?_eq_getElem h1] at h2
  exact h2, o.held⟩
theorem here_len {σ : Sht} (o : σ.ok) : σ.col ≤ σ.here.length ∧ σ.here.length ≤ 60 := ⟨by rw [here_eq o]; exact o.col, by rw [here_eq o]; exact o.len _ (List.getElem_mem o.row)⟩
theorem part_keeps {σ τ : Sht} (o : σ.ok) (h : σ.part = some τ) : τ.ok := by
  obtain ⟨hcol, e60⟩ := here_len o
  have hrow := o.row
  have hm := o.many
  unfold Sht.part at h
  split at h
  · cases h
  · rename_i c
    cases h
    have l1 : (σ.rows.take σ.row).length = σ.row := by simp; omega
    refine ⟨by simp; omega, by simp; omega, fun cs hcs => ?_, by simp, o.held⟩
    simp only [List.mem_append, List.mem_cons, List.not_mem_nil, or_false] at hcs
    rcases hcs with (h | h | h) | h
    · exact o.len cs (List.mem_of_mem_take h)
    · subst h
      simp
      omega
    · subst h
      simp
      omega
    · exact o.len cs (List.mem_of_mem_drop h)
theorem takeWhile_le {p : Nat → Bool} : ∀ (l : List Nat), (l.takeWhile p).length ≤ l.length
  | [] => Nat.le_refl _
  | c :: l => by
    rw [List.takeWhile_cons]
    have := takeWhile_le (p := p) l
    split
    · rw [List.length_cons, List.length_cons]; omega
    · simp
theorem taken_keeps {σ τ : Sht} (o : σ.ok) (h : σ.taken = some τ) : τ.ok := by
  obtain ⟨hcol, e60⟩ := here_len o
  have hw := takeWhile_le (p := letter) (σ.here.drop σ.col)
  rw [List.length_drop] at hw
  unfold Sht.taken at h
  simp only at h
  split at h
  · cases h
  · cases h
    refine ⟨by simpa using o.many, by simpa using o.row, fun cs hcs => ?_, ?_, ?_⟩
    · rcases List.mem_or_eq_of_mem_set hcs with h | h
      · exact o.len cs h
      · subst h
        simp
        omega
    · simp
      omega
    · show ((σ.here.drop σ.col).takeWhile letter).length ≤ 60
      omega
theorem findFrom_lt {cs w : List Nat} {p0 c : Nat} (h : findFrom cs w p0 = some c) : p0 ≤ c ∧ c < cs.length ∧ hits cs w c = true := by
  unfold findFrom at h
  have h1 := List.find?_some h
  have h2 := List.mem_range'_1.mp (List.mem_of_find?_eq_some h)
  exact ⟨h2.1, by omega, h1⟩
theorem findRows_lt {w : List Nat} : ∀ {R : List (List Nat)} {n p0 : Nat} {p : Nat × Nat}, findRows w R n p0 = some p → n ≤ p.1 ∧ p.1 < n + R.length ∧ p.2 < (R[p.1 - n]?.getD []).length
  | [], _, _, _, h => by cases h
  | cs :: R, n, p0, p, h => by
    unfold findRows at h
    split at h
    · rename_i c hc
      cases h
      have := findFrom_lt hc
      refine ⟨Nat.le_refl _, by rw [List.length_cons]; omega, ?_⟩
      simp only [Nat.sub_self, List.getElem?_cons_zero, Option.getD_some]
      exact this.2.1
    · have := findRows_lt h
      refine ⟨by omega, by rw [List.length_cons]; omega, ?_⟩
      have e : p.1 - n = (p.1 - (n + 1)) + 1 := by omega
      rw [e, List.getElem?_cons_succ]
      exact this.2.2
theorem found_keeps {σ τ : Sht} {w : List Nat} (o : σ.ok) (h : σ.found w = some τ) : τ.ok := by
  have hrow := o.row
  unfold Sht.found at h
  cases e : findRows w (σ.rows.drop σ.row) σ.row (σ.col + 1) with
  | none => rw [e] at h; cases h
  | some p =>
    rw [e] at h
    cases h
    obtain ⟨h1, h2, h3⟩ := findRows_lt e
    rw [List.length_drop] at h2
    refine at_ok o (by omega) ?_
    unfold Sht.len
    rw [List.getElem?_drop, show σ.row + (p.1 - σ.row) = p.1 by omega] at h3
    omega
theorem do1_ok {σ τ : Sht} {k : Ky} (o : σ.ok) (h : σ.do1 k = some τ) : τ.ok := by
  cases k with
  | put c => exact laid_ok o h
  | find w => exact found_keeps o h
  | play n k => cases h
  | till n => cases h
  | bare b =>
    cases b with
    | brk => exact part_keeps o h
    | rub => exact rub_ok_ o h
    | left => exact move_ok (k := .left) o h
    | right => exact move_ok (k := .right) o h
    | up => exact move_ok (k := .up) o h
    | down => exact move_ok (k := .down) o h
    | home => exact move_ok (k := .home) o h
    | fin => exact move_ok (k := .fin) o h
    | take => exact taken_keeps o h
    | lay =>
      simp only [Sht.do1] at h
      split at h
      · cases h
      · exact laid_ok o h
/-! signs -/
theorem at_sg {σ : Sht} (g : σ.sg) {a b : Nat} : (σ.at_ a b).sg := ⟨g.rows, g.held⟩
theorem set_sg {σ : Sht} (g : σ.sg) {n a b : Nat} {cs held : List Nat} (h : ∀ c ∈ cs, signOk c = true) (hh : ∀ c ∈ held, signOk c = true) : (⟨σ.rows.set n cs, a, b, held⟩ : Sht).sg := ⟨fun r hr => by
  rcases List.mem_or_eq_of_mem_set hr with h' | h'
  · exact g.rows r h'
  · rw [h']
    exact h, hh⟩
theorem row_sg {σ : Sht} (g : σ.sg) (n : Nat) : ∀ c ∈ σ.rows[n]?.getD [], signOk c = true := by
  cases e : σ.rows[n]? with
  | none => exact fun c h => by cases h
  | some cs => exact g.rows cs (List.mem_of_getElem? e)
theorem laid_sg {σ τ : Sht} {z : List Nat} (g : σ.sg) (hz : ∀ c ∈ z, signOk c = true) (h : σ.laid z = some τ) : τ.sg := by
  have gh := row_sg g σ.row
  unfold Sht.laid at h
  split at h
  · cases h
  · cases h
    refine set_sg g (fun c hc => ?_) g.held
    simp only [List.mem_append] at hc
    rcases hc with (hc | hc) | hc
    · exact gh c (List.mem_of_mem_take hc)
    · exact hz c hc
    · exact gh c (List.mem_of_mem_drop hc)
theorem do1_sg {σ τ : Sht} {k : Ky} (g : σ.sg) (hk : k.ok) (h : σ.do1 k = some τ) : τ.sg := by
  have gh : ∀ c ∈ σ.here, signOk c = true := row_sg g σ.row
  have mv : ∀ {j : Mv}, σ.move j = some τ → τ.sg := fun {j} h => by
    cases j <;> simp only [Sht.move] at h
    · split at h
      · cases h; exact at_sg g
      · split at h
        · cases h; exact at_sg g
        · cases h
    · split at h
      · cases h; exact at_sg g
      · split at h
        · cases h; exact at_sg g
        · cases h
    · split at h
      · cases h; exact at_sg g
      · cases h
    · split at h
      · cases h; exact at_sg g
      · cases h
    · cases h; exact at_sg g
    · cases h; exact at_sg g
  cases k with
  | put c => exact laid_sg g (fun x hx => by rw [List.mem_singleton.mp hx]; exact hk) h
  | find w =>
    simp only [Sht.do1, Sht.found, Option.map_eq_some_iff] at h
    obtain ⟨p, _, rfl⟩ := h
    exact at_sg g
  | play n k => cases h
  | till n => cases h
  | bare b =>
    cases b with
    | brk =>
      simp only [Sht.do1, Sht.part] at h
      split at h
      · cases h
      · cases h
        refine ⟨fun r hr => ?_, g.held⟩
        simp only [List.mem_append, List.mem_cons, List.not_mem_nil, or_false] at hr
        rcases hr with (hr | hr | hr) | hr
        · exact g.rows r (List.mem_of_mem_take hr)
        · rw [hr]
          exact fun c hc => gh c (List.mem_of_mem_take hc)
        · rw [hr]
          exact fun c hc => gh c (List.mem_of_mem_drop hc)
        · exact g.rows r (List.mem_of_mem_drop hr)
    | rub =>
      simp only [Sht.do1, Sht.rub] at h
      split at h
      · cases h
        refine set_sg g (fun c hc => ?_) g.held
        rcases List.mem_append.mp hc with hc | hc
        · exact gh c (List.mem_of_mem_take hc)
        · exact gh c (List.mem_of_mem_drop hc)
      · split at h
        · cases h
        · cases h
          refine ⟨fun r hr => ?_, g.held⟩
          simp only [List.mem_append, List.mem_singleton] at hr
          rcases hr with (hr | hr) | hr
          · exact g.rows r (List.mem_of_mem_take hr)
          · rw [hr]
            intro c hc
            rcases List.mem_append.mp hc with hc | hc
            · exact row_sg g _ c hc
            · exact gh c hc
          · exact g.rows r (List.mem_of_mem_drop hr)
    | left => exact mv (j := .left) h
    | right => exact mv (j := .right) h
    | up => exact mv (j := .up) h
    | down => exact mv (j := .down) h
    | home => exact mv (j := .home) h
    | fin => exact mv (j := .fin) h
    | take =>
      simp only [Sht.do1, Sht.taken] at h
      split at h
      · cases h
      · cases h
        refine set_sg g (fun c hc => ?_) (fun c hc => gh c (List.mem_of_mem_drop (List.takeWhile_sublist _ |>.subset hc)))
        rcases List.mem_append.mp hc with hc | hc
        · exact gh c (List.mem_of_mem_take hc)
        · exact gh c (List.mem_of_mem_drop hc)
    | lay =>
      simp only [Sht.do1] at h
      split at h
      · cases h
      · exact laid_sg g g.held h
/-! where a word stands -/
theorem find3_row {cs w : List Nat} (hw : w ≠ []) (i : Nat) : Txt.find3 (rowOf cs) (rowOf w) i = match findFrom cs w i with
    | some c => ((c : Nat) : Int)
    | none => -1 := by
  have lw : 1 ≤ w.length := by
    cases w with
    | nil => exact absurd rfl hw
    | cons _ _ => simp
  have fi : fromIndex (rowOf cs).length i = i := by
    unfold fromIndex
    split <;> omega
  have hA : ∀ k, StrLaws.At (rowOf cs) (rowOf w) (rowOf cs).length k ↔ hits cs w k = true := fun k => by
    unfold StrLaws.At hits
    rw [StrLaws.subAt_eq, rowOf_len, rowOf_len]
    have e1 : (rowOf cs).cps.toList = cs := by simp [rowOf]
    have e2 : (rowOf w).cps.toList = w := by simp [rowOf]
    rw [e1, e2]
    refine ⟨fun h => h.2, fun h => ⟨?_, h⟩⟩
    have := congrArg List.length (beq_iff_eq.mp h)
    rw [List.length_take, List.length_drop] at this
    omega
  have hlt : ∀ k, hits cs w k = true → k < cs.length := fun k h => by
    have := ((hA k).mpr h).1
    rw [rowOf_len, rowOf_len] at this
    omega
  unfold Txt.find3
  rw [fi]
  rcases StrLaws.occ_head_from (rowOf cs) (rowOf w) i 1 (Nat.le_refl 1) with ⟨h0, hn⟩ | ⟨k, r, h0, hlo, hk, hn⟩
  · rw [h0]
    have : findFrom cs w i = none := by
      unfold findFrom
      rw [List.find?_eq_none]
      intro x hx
      have := (List.mem_range'_1.mp hx).1
      exact fun z => hn x this ((hA x).mpr z)
    rw [this]
  · rw [h0]
    have hk' := (hA k).mp hk
    have : findFrom cs w i = some k := by
      unfold findFrom
      rw [List.find?_range'_eq_some]
      refine ⟨hk', ?_, fun j h1 h2 => ?_⟩
      · rw [List.mem_range'_1]
        have := hlt k hk'
        omega
      · have := fun z => hn j h1 h2 ((hA j).mpr z)
        simpa using this
    rw [this]
theorem letters_eq (c : Nat) : decide (c ∈ (Str.ofString "abcdefghijklmnopqrstuvwxyz").cps.toList) = letter c := by
  have : (Str.ofString "abcdefghijklmnopqrstuvwxyz").cps.toList = List.range' 97 26 := by decide +kernel
  rw [this, letter, ← Bool.decide_and]
  refine decide_eq_decide.mpr ?_
  rw [List.mem_range'_1]
  omega
theorem rng2_nat {a n : Nat} : ((List.range n).map fun (k : Nat) => W.d (.int ((a : Int) + k))) = (List.range' a n).map fun (i : Nat) => W.d (.int i) := by
  rw [List.range'_eq_map_range, List.map_map]
  refine List.map_congr_left fun k _ => ?_
  show W.d (.int ((a : Int) + k)) = W.d (.int ((a + k : Nat) : Int))
  rw [Int.natCast_add]
theorem is_number_ok (x : PyData) (lo hi : Int) (m : M) : F_is_number [.d x, .d (.int lo), .d (.int hi)] m = .ok (.d (.bool (isNumber x lo hi))) m := by
  unfold F_is_number B_is_number
  cases x with
  | int i =>
    by_cases h1 : lo ≤ i
    · simp_arith only [isNumber, h1]
    · simp_arith only [isNumber, h1, Bool.false_and]
  | _ => simp_arith only [isNumber]
theorem are_signs_ok (x : PyData) (lo hi : Int) (m : M) (hs : shortS x) : F_are_signs [.d x, .d (.int lo), .d (.int hi)] m = .ok (.d (.bool (areSigns x lo hi))) m := by
  unfold F_are_signs B_are_signs
  cases x with
  | str z =>
    have hz := hs z rfl
    have hz2 : z.length ≤ 1000000 := by omega
    have comp : loopC 3 B_are_signs_2 B_are_signs_1 (stl (chs z)) ⟨[.v (.d (.str z)), .v (.d (.int lo)), .v (.d (.int hi)), .no], m⟩ =
        .ok (stl ((chs z).filter fun t => !t.cps.toList.all signOk)) ⟨[.v (.d (.str z)), .v (.d (.int lo)), .v (.d (.int hi)), .no], m⟩ := by
      have := loopC_pure (i := 3) (c := B_are_signs_2) (e := B_are_signs_1) (m := m) (sl := [.v (.d (.str z)), .v (.d (.int lo)), .v (.d (.int hi)), .no]) (p := fun w => match w with | .d (.str t) => !t.cps.toList.all signOk | _ => false) (f := id) rfl (stl (chs z)) (fun x hx => ?_) (fun x hx _ => ?_)
      · rw [this, List.map_id, stl_filter fun _ => rfl]
      · obtain ⟨t, ht, rfl⟩ := stl_mem hx
        obtain ⟨c, rfl, _⟩ := chs_mem ht
        unfold B_are_signs_2
        have e1 : (!decide ((⟨#[c]⟩ : Str).cps.toList < (Str.ofString " ").cps.toList)) = decide (32 ≤ c) := le_sign 32 c
        have e2 : (!decide ((Str.ofString "~").cps.toList < (⟨#[c]⟩ : Str).cps.toList)) = decide (c ≤ 126) := le_sign c 126
        by_cases h1 : 32 ≤ c
        · simp_arith only [e1, e2, h1, signOk, List.all_cons, List.all_nil]
        · simp_arith only [e1, e2, h1, signOk, List.all_cons, List.all_nil, Bool.false_and]
      · obtain ⟨t, ht, rfl⟩ := stl_mem hx
        exact ⟨rfl, rfl⟩
    by_cases h1 : lo ≤ z.length
    · by_cases h2 : (z.length : Int) ≤ hi
      · simp_arith only [areSigns, h1, h2, hz, hz2, signs_stl, comp, stl_allD, chs_all]
      · simp_arith only [areSigns, h1, h2, hz, hz2, Bool.and_false, Bool.false_and]
    · simp_arith only [areSigns, h1, hz, hz2, Bool.false_and]
  | _ => simp_arith only [areSigns]
theorem is_name_ok (x : PyData) (m : M) (hs : shortS x) : F_is_name [.d x] m = .ok (.d (.bool (isName x))) m := by
  unfold F_is_name B_is_name
  cases x with
  | str z =>
    have hz := hs z rfl
    have hz2 : z.length ≤ 1000000 := by omega
    by_cases h1 : z.length = 1
    · obtain ⟨c, hc⟩ : ∃ c, z.cps.toList = [c] := by
        have : z.cps.toList.length = 1 := by simpa [Str.length] using h1
        match h : z.cps.toList, this with
        | [c], _ => exact ⟨c, rfl⟩
      have h1' : ((z.length : Nat) : Int) = 1 := by omega
      have e3 : decide (c ∈ (Str.ofString "abcdefgh").cps.toList) = (decide (97 ≤ c) && decide (c ≤ 104)) := by
        have : (Str.ofString "abcdefgh").cps.toList = [97, 98, 99, 100, 101, 102, 103, 104] := by decide +kernel
        rw [this, Bool.eq_iff_iff]
        simp only [List.mem_cons, List.not_mem_nil, or_false, decide_eq_true_eq, Bool.and_eq_true]
        omega
      simp_arith only [isName, h1, h1', hz, hz2, oInS, hc, e3, List.all_cons, List.all_nil]
    · have h1' : ¬ ((z.length : Nat) : Int) = 1 := by omega
      simp_arith only [isName, h1, h1', hz, hz2, Bool.false_and]
  | _ => simp_arith only [isName]
theorem is_key_ok (x : PyData) (m : M) (hs : shortK x) : F_is_key [.d x] m = .ok (.d (.bool (isKey x))) m := by
  unfold F_is_key B_is_key
  cases x with
  | tuple ds =>
    have hsh := hs ds rfl
    cases ds with
    | nil => simp_arith only [isKey]
    | cons d r =>
      have hr : ∀ e ∈ r, shortS e := fun e h => hsh e (List.mem_cons_of_mem _ h)
      cases d with
      | str w =>
        by_cases h1 : w ∈ ([Str.ofString "put", Str.ofString "find"] : List Str)
        · cases r with
          | nil => simp_arith only [isKey, h1, arg1]
          | cons y r =>
            cases r with
            | nil =>
              have hy := hr y List.mem_cons_self
              by_cases h2 : w = Str.ofString "put"
              · subst h2
                simp_arith only [isKey, h1, arg1, are_signs_ok _ _ _ _ hy]
              · simp_arith only [isKey, h1, h2, arg1, are_signs_ok _ _ _ _ hy]
            | cons y2 r =>
              have : ¬ (((r.length + 1 + 1 + 1 : Nat) : Int) = 2) := by omega
              simp_arith only [isKey, h1, arg1, this]
        · by_cases h2 : w = Str.ofString "play"
          · subst h2
            cases r with
            | nil => simp_arith only [isKey, h1, arg2]
            | cons y r =>
              cases r with
              | nil => simp_arith only [isKey, h1, arg2]
              | cons y2 r =>
                cases r with
                | nil =>
                  have hy := hr y List.mem_cons_self
                  cases hn : isName y with
                  | true => simp_arith only [isKey, h1, arg2, is_name_ok _ _ hy, is_number_ok, hn]
                  | false => simp_arith only [isKey, h1, arg2, is_name_ok _ _ hy, is_number_ok, hn, Bool.false_and]
                | cons y3 r =>
                  have : ¬ (((r.length + 1 + 1 + 1 + 1 : Nat) : Int) = 3) := by omega
                  simp_arith only [isKey, h1, arg2, this]
          · by_cases h3 : w = Str.ofString "till"
            · subst h3
              cases r with
              | nil => simp_arith only [isKey, h1, arg1]
              | cons y r =>
                cases r with
                | nil =>
                  have hy := hr y List.mem_cons_self
                  simp_arith only [isKey, h1, arg1, is_name_ok _ _ hy]
                | cons y2 r =>
                  have : ¬ (((r.length + 1 + 1 + 1 : Nat) : Int) = 2) := by omega
                  simp_arith only [isKey, h1, arg1, this]
            · cases r with
              | nil => simp_arith only [isKey, h1, h2, h3]
              | cons y r =>
                have : ¬ (((r.length + 1 + 1 : Nat) : Int) = 1) := by omega
                simp_arith only [isKey, h1, h2, h3, this, Bool.false_and]
      | _ => simp_arith only [isKey]
  | _ => simp_arith only [isKey]
theorem need_keys_ok (ds : List PyData) (most : Int) (m : M) (h1 : (ds.length : Int) ≤ most) (h2 : ds.length ≤ 1000) (h3 : ∀ e ∈ ds, isKey e = true ∧ shortK e) : F_need_keys [.d (.tuple ds), .d (.int most)] m = .ok (.d .none) m := by
  obtain ⟨s', e, ⟨z, rfl⟩⟩ := loopF_inv (g := gN 2) (b := B_need_keys_1) ((List.range ds.length).map fun (i : Nat) => W.d (.int i)) (fun _ s => ∃ z, s = ⟨[.v (.d (.tuple ds)), .v (.d (.int most)), z], m⟩) (fun i hi s ⟨z, hs⟩ => by
    subst hs
    have hi' : i < ds.length := by simpa using hi
    have hk := h3 ds[i] (List.getElem_mem hi')
    rw [rng_get]
    refine ⟨_, _, y_gN rfl, ?_, ⟨.v (.d (.int i)), rfl⟩⟩
    unfold B_need_keys_1
    simp_arith only [show ¬ most ≤ (i : Int) by omega, show (0 : Int) ≤ (i : Int) by omega, List.getElem?_eq_getElem hi', is_key_ok _ _ hk.2, hk.1]) ⟨[.v (.d (.tuple ds)), .v (.d (.int most)), .no], m⟩ ⟨_, rfl⟩
  unfold F_need_keys B_need_keys
  simp_arith only [show -40000 ≤ (ds.length : Int) by omega, show (ds.length : Int) ≤ 40000 by omega, e]
theorem need_key_ok {d : PyData} {m : M} (h : isKey d = true) (hs : shortK d) : F_need_key [.d d] m = .ok (.d .none) m := by
  unfold F_need_key B_need_key
  simp_arith only [is_key_ok _ _ hs, h]
theorem need_name_ok {d : PyData} {m : M} (h : isName d = true) (hs : shortS d) : F_need_name [.d d] m = .ok (.d .none) m := by
  unfold F_need_name B_need_name
  simp_arith only [is_name_ok _ _ hs, h]
theorem mix_ok (ns : List Int) (seed : Int) (hns : ns.length ≤ 100000) : ∃ x, F_law_mix [.scr ns, .d (.int seed)] [TB] = .ok (.ref 2) (dm ns x 0 []) := by
  have b1 : (-4611686018427387904 < (48271 : Int) ∧ (48271 : Int) < 4611686018427387904) := by decide
  obtain ⟨s', e, x, z, rfl⟩ := loopF_inv (g := gN 3) (b := B_law_mix_1) (ns.map fun n => W.d (.int n)) (fun _ s => ∃ x z, s = ⟨[.v (.scr ns), .v (.d (.int seed)), .v (.d (.int x)), z], [TB]⟩) (fun i hi s ⟨x, z, hs⟩ => by
    subst hs
    obtain ⟨n, hn⟩ : ∃ n, (ns.map fun n => W.d (.int n))[i] = .d (.int n) := ⟨ns[i]'(by simpa using hi), by simp⟩
    rw [hn]
    refine ⟨_, _, y_gN rfl, ?_, ⟨(x * 48271 + n % 2147483629 + 1) % 2147483647, .v (.d (.int n)), rfl⟩⟩
    unfold B_law_mix_1
    simp_arith only [b1]) ⟨[.v (.scr ns), .v (.d (.int seed)), .v (.d (.int seed)), .no], [TB]⟩ ⟨_, _, rfl⟩
  refine ⟨x, ?_⟩
  have fr : frees (ns.map fun n => W.d (.int n)) = true := by
    have := frees_map (ns.map PyData.int)
    rwa [List.map_map] at this
  unfold F_law_mix B_law_mix
  simp_arith only [e, dm, hns, fr]
theorem mix_dr (ns : List Int) (seed : Int) (hns : ns.length ≤ 100000) : ∃ d, F_law_mix [.scr ns, .d (.int seed)] [TB] = .ok (.ref 2) (dr d []) := by
  obtain ⟨x, e⟩ := mix_ok ns seed hns
  exact ⟨⟨ns, x, 0⟩, e⟩
theorem nxt {d : Dr} {n : Int} {rest : M} (h0 : 0 < n) (h1 : n < 1000000000) : F_law_next [.ref 2, .d (.int n)] (dr d rest) = .ok (.d (.int (nx d n))) (dr (st d n) rest) := by
  obtain ⟨cs, x, a⟩ := d
  unfold nx st Dr.mix Dr.cell Dr.at_ F_law_next B_law_next dr dm
  simp only
  generalize hL' : (if (cs.length : Int) > 1 then (cs.length : Int) else 1) = L
  have hL : 0 < L := by rw [← hL']; split <;> omega
  have hr0 : 0 ≤ a % L := Int.emod_nonneg _ (by omega)
  have hr1 : a % L < L := Int.emod_lt_of_pos _ hL
  have hn : 0 < n ∧ n < 1000000000 := ⟨h0, h1⟩
  have b1 : (-4611686018427387904 < (48271 : Int) ∧ (48271 : Int) < 4611686018427387904) := by decide
  have b2 : (-4611686018427387904 < (69621 : Int) ∧ (69621 : Int) < 4611686018427387904) := by decide
  have b3 : (0 < (7 : Int) ∧ (7 : Int) < 1000000000) := by decide
  have b4 : ((0 : Int) ≤ 18 ∧ (18 : Int) ≤ 1000000 ∧ (0 : Int) ≤ 10 ∧ (10 : Int) < 4611686018427387904) := by decide
  cases cs with
  | nil => simp_arith only [ hL', hL, hn, b1, b2, b3, b4, h0, Option.getD_none]
  | cons c0 cs0 =>
    have hlen : ((a % L).toNat : Nat) < (c0 :: cs0).length := by
      have : ((c0 :: cs0).length : Int) = L := by
        rw [← hL']
        simp only [List.length_cons]
        split <;> omega
      omega
    generalize hcs : c0 :: cs0 = cs at *
    have hne : cs.isEmpty = false := by rw [← hcs]; rfl
    have hc0 : cs[(a % L).toNat]? = some cs[(a % L).toNat] := List.getElem?_eq_getElem hlen
    have hc : (List.map (fun n => W.d (.int n)) cs)[(a % L).toNat]? = some (.d (.int cs[(a % L).toNat])) := by
      rw [List.getElem?_map, hc0]
      rfl
    have hlen2 : a % L < ((cs.length : Nat) : Int) := by omega
    have hie : (List.map (fun n => W.d (.int n)) cs).isEmpty = false := by rw [← hcs]; rfl
    generalize cs[(a % L).toNat] = c at hc hc0
    rw [hc0]
    by_cases hb : 1000000000000000000 ≤ c
    · have hcs2 : (List.map (fun n => W.d (.int n)) cs).set (a % L).toNat (W.d (.int (c / n))) = (cs.set (a % L).toNat (c / n)).map fun n => W.d (.int n) := by rw [List.map_set]
      simp_arith only [ hL', hL, hn, b1, b2, b3, b4, h0, hr0, hc, hie, hne, hb, hlen2, hcs2, Option.getD_some]
    · simp_arith only [ hL', hL, hn, b1, b2, b3, b4, h0, hr0, hc, hie, hne, hb, hlen2, Option.getD_some]
theorem sign_ok (d : Dr) (rest : M) : ∃ d' c, F_law_sign [.ref 2] (dr d rest) = .ok (.d (.str (rowOf [c]))) (dr d' rest) ∧ signOk c = true := by
  have l1 : (Str.ofString "aab, ").length ≤ 1000000 := by decide +kernel
  have l2 : every.length ≤ 1000000 := by decide +kernel
  have l3 : ((every.length : Nat) : Int) = 94 := by decide +kernel
  obtain ⟨c1, e1, s1⟩ := pick (z := Str.ofString "aab, ") (n := 5) (by decide +kernel) (by decide +kernel) d (by decide)
  obtain ⟨c2, e2, s2⟩ := pick (z := every) (n := 94) (by decide +kernel) (by decide +kernel) (st d 5) (by decide)
  have a1 := nx_lo (d := d) (n := 5) (by decide)
  have a2 := nx_lo (d := st d 5) (n := 94) (by decide)
  have a3 := nx_lo (d := st (st d 5) 94) (n := 4) (by decide)
  have a4 := nx_hi (d := st (st d 5) 94) (n := 4) (by decide)
  have b3 : (0 < (3 : Int) ∧ (3 : Int) < 1000000000) := by decide
  unfold F_law_sign B_law_sign
  rw [show (Str.ofString " !\"#$&'()*+,-./0123456789:;<=>?@ABCDEFGHIJKLMNOPQRSTUVWXYZ[\\]^_`abcdefghijklmnopqrstuvwxyz{|}~") = every from rfl]
  refine ⟨st (st (st d 5) 94) 4, if nx (st (st d 5) 94) 4 / 3 = 0 then c1 else c2, ?_, by split <;> assumption⟩
  rcases (show nx (st (st d 5) 94) 4 / 3 = 0 ∨ nx (st (st d 5) 94) 4 / 3 = 1 by omega) with h | h
  · simp_arith only [nxt, l1, l2, l3, e1, e2, a1, a2, b3, h]
    rfl
  · simp_arith only [nxt, l1, l2, l3, e1, e2, a1, a2, b3, h]
    rfl
theorem here_ok {m : M} {s r : Nat} {σ : Sht} (h : Sh m s r σ) (o : σ.ok) : F_Sheet_here [.ref s] m = .ok (.d (.str (rowOf σ.here))) m := by
  have hi := h.ins
  unfold shI at hi
  unfold F_Sheet_here B_Sheet_here
  simp_arith only [hi, h.lst, rowsW_len, rowsW_get o.row, here_eq o, show ((σ.row : Nat) : Int) < (σ.rows.length : Int) by have := o.row; omega, show (0 : Int) ≤ (σ.row : Int) by omega]
theorem go_ok {m : M} {s r : Nat} {row col a b : Int} {h : Str} (hi : m[s]? = some (shI r row col h)) : F_Sheet_go [.ref s, .d (.int a), .d (.int b)] m = .ok (.d (.bool true)) (m.set s (shI r a b h)) := by
  have hl := getElem?_lt hi
  unfold shI at hi
  have h2 : ∀ b : B, (m.set s b)[s]? = some b := fun b => List.getElem?_set_self hl
  unfold F_Sheet_go B_Sheet_go
  simp_arith only [hi, h2, shI]
theorem lay_ok {m : M} {s r : Nat} {σ : Sht} (h : Sh m s r σ) (o : σ.ok) (z : List Nat) (hz : z.length ≤ 60) : Does F_Sheet_lay [.ref s, .d (.str (rowOf z))] m s r σ (σ.laid z) := by
  have hh := here_ok h o
  have hi := h.ins
  have hl := getElem?_lt hi
  have hl2 := getElem?_lt h.lst
  unfold shI at hi
  have e60 : σ.here.length ≤ 60 := by rw [here_eq o]; exact o.len _ (List.getElem_mem o.row)
  have hrow := o.row
  have hcol : σ.col ≤ σ.here.length := by rw [here_eq o]; exact o.col
  unfold Does Sht.laid F_Sheet_lay B_Sheet_lay
  by_cases c : σ.here.length + z.length > 60
  · have c' : (60 : Int) < (σ.here.length : Int) + (z.length : Int) := by omega
    rw [if_pos c]
    refine ⟨m, ?_, h, .refl⟩
    simp_arith only [hi, hh, rowOf_len, c', show σ.here.length ≤ 1000000 by omega, show z.length ≤ 1000000 by omega, Option.isSome_none]
  · have c' : ¬ (60 : Int) < (σ.here.length : Int) + (z.length : Int) := by omega
    rw [if_neg c]
    have hs : ∀ b : B, (m.set r b)[s]? = m[s]? := fun b => List.getElem?_set_ne (Ne.symm h.ne)
    have p := h.put { σ with rows := σ.rows.set σ.row (σ.here.take σ.col ++ z ++ σ.here.drop σ.col), col := σ.col + z.length }
    refine ⟨_, ?_, p.1, p.2⟩
    have k1 : cutA σ.here none (some (σ.col : Int)) = σ.here.take σ.col := by rw [cutA_to (by omega)]; rfl
    have k2 : cutA σ.here (some (σ.col : Int)) none = σ.here.drop σ.col := by rw [cutA_from (by omega)]; rfl
    have l1 : (σ.here.take σ.col).length + z.length ≤ 1000000 := by rw [List.length_take]; omega
    have l2 : (σ.here.take σ.col ++ z).length + (σ.here.drop σ.col).length ≤ 1000000 := by simp; omega
    simp_arith only [hi, hh, hs, h.lst, rowOf_len, c', show σ.here.length ≤ 1000000 by omega, show z.length ≤ 1000000 by omega, rowOf_cut, rowOf_app, k1, k2, l1, l2, rowsW_len, rowsW_set, show ((σ.row : Nat) : Int) < (σ.rows.length : Int) by omega, Option.isSome_some]
    rw [Int.natCast_add]
    rfl
theorem go_sh {m : M} {s r : Nat} {σ : Sht} (h : Sh m s r σ) (a b : Nat) : F_Sheet_go [.ref s, .d (.int a), .d (.int b)] m = .ok (.d (.bool true)) (m.set s (shI r a b (rowOf σ.held))) := go_ok h.ins
theorem moved_ok {m : M} {s r : Nat} {σ : Sht} (h : Sh m s r σ) (o : σ.ok) (k : Mv) : Does F_Sheet_moved [.ref s, .d (.str k.word)] m s r σ (σ.move k) := by
  have hh := here_ok h o
  have hi := h.ins
  have hrow := o.row
  have hcol : σ.col ≤ σ.here.length := by rw [here_eq o]; exact o.col
  have e60 : σ.here.length ≤ 60 := by rw [here_eq o]; exact o.len _ (List.getElem_mem o.row)
  have e6 : σ.here.length ≤ 1000000 := by omega
  have hg : ∀ a b : Nat, F_Sheet_go [.ref s, .d (.int a), .d (.int b)] m = _ := fun a b => go_sh h a b
  have hp : ∀ a b : Nat, Sh (m.set s (shI r a b (rowOf σ.held))) s r (σ.at_ a b) ∧ Fra s r m (m.set s (shI r a b (rowOf σ.held))) := fun a b => h.put1 a b σ.held
  unfold shI at hi
  have hmany := o.many
  have hlst := h.lst
  have ln : ∀ n : Nat, n < σ.rows.length → (rowsW σ.rows)[n]? = some (.d (.str (rowOf (σ.rows[n]?.getD [])))) := fun n hn => by rw [rowsW_get hn]; simp [hn]
  have ll : ∀ n : Nat, σ.len n ≤ 60 := fun n => by
    unfold Sht.len
    cases e : σ.rows[n]? with
    | none => simp
    | some cs => exact o.len _ (List.mem_of_getElem? e)
  have ll6 : ∀ n : Nat, (σ.rows[n]?.getD []).length ≤ 1000000 := fun n => by
    have := ll n
    unfold Sht.len at this
    omega
  have up1 : (σ.row : Int) + 1 = ((σ.row + 1 : Nat) : Int) := by omega
  have z0 : (0 : Int) ≤ ((σ.row + 1 : Nat) : Int) := by omega
  unfold Does F_Sheet_moved B_Sheet_moved
  cases k with
  | home =>
    refine ⟨_, ?_, hp σ.row 0⟩
    have k1 := hg σ.row 0
    simp only [Int.natCast_zero] at k1
    simp_arith only [Mv.word, hi, hh, k1, Sht.move, Option.isSome_some]
  | fin =>
    refine ⟨_, ?_, hp σ.row σ.here.length⟩
    have k1 := hg σ.row σ.here.length
    simp_arith only [Mv.word, hi, hh, k1, Sht.move, Option.isSome_some, rowOf_len, e6]
  | left =>
    simp only [Sht.move]
    by_cases c : 0 < σ.col
    · have k1 := hg σ.row (σ.col - 1)
      have c1 : (0 : Int) < σ.col := by omega
      have c2 : (σ.col : Int) - 1 = ((σ.col - 1 : Nat) : Int) := by omega
      rw [if_pos c]
      refine ⟨_, ?_, hp σ.row (σ.col - 1)⟩
      simp_arith only [Mv.word, hi, hh, c1, c2, k1, Option.isSome_some]
    · have c1 : ¬ (0 : Int) < σ.col := by omega
      rw [if_neg c]
      by_cases d : 0 < σ.row
      · rw [if_pos d]
        have d2 : (σ.row : Int) + -1 = ((σ.row - 1 : Nat) : Int) := by omega
        have d3 : ((σ.row - 1 : Nat) : Int) < (σ.rows.length : Int) := by omega
        have d4 : (0 : Int) ≤ ((σ.row - 1 : Nat) : Int) := by omega
        have k1 := hg (σ.row - 1) (σ.len (σ.row - 1))
        unfold Sht.len at k1
        refine ⟨_, ?_, hp (σ.row - 1) (σ.len (σ.row - 1))⟩
        simp_arith only [Mv.word, hi, hh, hlst, rowsW_len, c1, d2, d3, d4, k1, ln (σ.row - 1) (by omega), rowOf_len, ll6 (σ.row - 1), Option.isSome_some]
        rfl
      · rw [if_neg d]
        have d2 : ¬ (0 : Int) ≤ (σ.row : Int) + -1 := by omega
        refine ⟨m, ?_, h, .refl⟩
        simp_arith only [Mv.word, hi, hh, hlst, rowsW_len, c1, d2, Option.isSome_none]
        done
  | right =>
    simp only [Sht.move]
    by_cases c : σ.col < σ.here.length
    · have k1 := hg σ.row (σ.col + 1)
      have c1 : (σ.col : Int) < (σ.here.length : Int) := by omega
      have c2 : (σ.col : Int) + 1 = ((σ.col + 1 : Nat) : Int) := by omega
      rw [if_pos c]
      refine ⟨_, ?_, hp σ.row (σ.col + 1)⟩
      simp_arith only [Mv.word, hi, hh, c1, c2, k1, rowOf_len, e6, Option.isSome_some]
    · have c1 : ¬ (σ.col : Int) < (σ.here.length : Int) := by omega
      rw [if_neg c]
      by_cases d : σ.row + 1 < σ.rows.length
      · rw [if_pos d]
        have d3 : ((σ.row + 1 : Nat) : Int) < (σ.rows.length : Int) := by omega
        have k1 := hg (σ.row + 1) 0
        simp only [Int.natCast_zero] at k1
        refine ⟨_, ?_, hp (σ.row + 1) 0⟩
        simp_arith only [Mv.word, hi, hh, hlst, rowsW_len, c1, up1, z0, d3, k1, rowOf_len, e6, Option.isSome_some]
        done
      · rw [if_neg d]
        have d3 : ¬ ((σ.row + 1 : Nat) : Int) < (σ.rows.length : Int) := by omega
        refine ⟨m, ?_, h, .refl⟩
        simp_arith only [Mv.word, hi, hh, hlst, rowsW_len, c1, up1, z0, d3, rowOf_len, e6, Option.isSome_none]
        done
  | up =>
    simp only [Sht.move]
    by_cases d : 0 < σ.row
    · rw [if_pos d]
      have d2 : (σ.row : Int) + -1 = ((σ.row - 1 : Nat) : Int) := by omega
      have d3 : ((σ.row - 1 : Nat) : Int) < (σ.rows.length : Int) := by omega
      have d4 : (0 : Int) ≤ ((σ.row - 1 : Nat) : Int) := by omega
      have k1 := hg (σ.row - 1) (min σ.col (σ.len (σ.row - 1)))
      refine ⟨_, ?_, hp (σ.row - 1) (min σ.col (σ.len (σ.row - 1)))⟩
      unfold Sht.len at *
      simp_arith only [Mv.word, hi, hh, hlst, rowsW_len, d2, d3, d4, min_int, k1, ln (σ.row - 1) (by omega), rowOf_len, ll6 (σ.row - 1), Option.isSome_some]
      done
    · rw [if_neg d]
      have d2 : ¬ (0 : Int) ≤ (σ.row : Int) + -1 := by omega
      refine ⟨m, ?_, h, .refl⟩
      simp_arith only [Mv.word, hi, hh, hlst, rowsW_len, d2, Option.isSome_none]
      done
  | down =>
    simp only [Sht.move]
    by_cases d : σ.row + 1 < σ.rows.length
    · rw [if_pos d]
      have d3 : ((σ.row + 1 : Nat) : Int) < (σ.rows.length : Int) := by omega
      have k1 := hg (σ.row + 1) (min σ.col (σ.len (σ.row + 1)))
      refine ⟨_, ?_, hp (σ.row + 1) (min σ.col (σ.len (σ.row + 1)))⟩
      unfold Sht.len at *
      simp_arith only [Mv.word, hi, hh, hlst, rowsW_len, up1, z0, d3, min_int, k1, ln (σ.row + 1) d, rowOf_len, ll6 (σ.row + 1), Option.isSome_some]
      done
    · rw [if_neg d]
      have d3 : ¬ ((σ.row + 1 : Nat) : Int) < (σ.rows.length : Int) := by omega
      refine ⟨m, ?_, h, .refl⟩
      simp_arith only [Mv.word, hi, hh, hlst, rowsW_len, up1, z0, d3, Option.isSome_none]
      done
theorem rub_ok {m : M} {s r : Nat} {σ : Sht} (h : Sh m s r σ) (o : σ.ok) : Does F_Sheet_rubbed [.ref s] m s r σ σ.rub := by
  have hh := here_ok h o
  have hi0 := h.ins
  have hi := h.ins
  have hrow := o.row
  have hcol : σ.col ≤ σ.here.length := by rw [here_eq o]; exact o.col
  have e60 : σ.here.length ≤ 60 := by rw [here_eq o]; exact o.len _ (List.getElem_mem o.row)
  have e6 : σ.here.length ≤ 1000000 := by omega
  have hmany := o.many
  have hlst := h.lst
  have ln : ∀ n : Nat, n < σ.rows.length → (rowsW σ.rows)[n]? = some (.d (.str (rowOf (σ.rows[n]?.getD [])))) := fun n hn => by rw [rowsW_get hn]; simp [hn]
  have ll : ∀ n : Nat, (σ.rows[n]?.getD []).length ≤ 60 := fun n => by
    cases e : σ.rows[n]? with
    | none => simp
    | some cs => exact o.len _ (List.mem_of_getElem? e)
  have hs : ∀ b : B, (m.set r b)[s]? = m[s]? := fun b => List.getElem?_set_ne (Ne.symm h.ne)
  have hg : ∀ (R : List (List Nat)) (a b : Nat), F_Sheet_go [.ref s, .d (.int a), .d (.int b)] (m.set r (.lst (rowsW R))) = _ := fun R a b => go_ok (by rw [hs]; exact hi0)
  unfold shI at hi
  unfold Does F_Sheet_rubbed B_Sheet_rubbed Sht.rub
  have rl : (σ.row : Int) < (σ.rows.length : Int) := by omega
  by_cases c : 0 < σ.col
  · rw [if_pos c]
    have c1 : (0 : Int) < σ.col := by omega
    have c2 : (σ.col : Int) - 1 = ((σ.col - 1 : Nat) : Int) := by omega
    have k1 : cutA σ.here none (some ((σ.col - 1 : Nat) : Int)) = σ.here.take (σ.col - 1) := by rw [cutA_to (by omega)]; rfl
    have k2 : cutA σ.here (some (σ.col : Int)) none = σ.here.drop σ.col := by rw [cutA_from (by omega)]; rfl
    have l1 : (σ.here.take (σ.col - 1)).length + (σ.here.drop σ.col).length ≤ 1000000 := by simp; omega
    have g1 := hg (σ.rows.set σ.row (σ.here.take (σ.col - 1) ++ σ.here.drop σ.col)) σ.row (σ.col - 1)
    refine ⟨_, ?_, h.put2 (σ.rows.set σ.row (σ.here.take (σ.col - 1) ++ σ.here.drop σ.col)) σ.row (σ.col - 1) σ.held⟩
    simp_arith only [hi, hh, hs, hlst, rowOf_len, c1, c2, e6, rowOf_cut, rowOf_app, k1, k2, l1, rowsW_len, rowsW_set, rl, g1, Option.isSome_some]
  · rw [if_neg c]
    have c1 : ¬ (0 : Int) < σ.col := by omega
    by_cases d : σ.row = 0
    · rw [if_pos (.inl d)]
      have d1 : (σ.row : Int) = 0 := by omega
      refine ⟨m, ?_, h, .refl⟩
      simp_arith only [hi, hh, c1, d1, Option.isSome_none]
    · have d1 : ¬ (σ.row : Int) = 0 := by omega
      have d2 : (σ.row : Int) - 1 = ((σ.row - 1 : Nat) : Int) := by omega
      have d3 : ((σ.row - 1 : Nat) : Int) < (σ.rows.length : Int) := by omega
      have d4 : (0 : Int) ≤ ((σ.row - 1 : Nat) : Int) := by omega
      have up1 : (σ.row : Int) + 1 = ((σ.row + 1 : Nat) : Int) := by omega
      have ab := ln (σ.row - 1) (by omega)
      have al := ll (σ.row - 1)
      have al6 : (σ.rows[σ.row - 1]?.getD []).length ≤ 1000000 := by omega
      by_cases e : σ.len (σ.row - 1) + σ.here.length > 60
      · rw [if_pos (.inr e)]
        unfold Sht.len at e
        have e1 : (60 : Int) < ((σ.rows[σ.row - 1]?.getD []).length : Int) + (σ.here.length : Int) := by omega
        refine ⟨m, ?_, h, .refl⟩
        simp_arith only [hi, hh, hlst, rowsW_len, c1, d1, d2, d3, d4, ab, al6, e6, rowOf_len, e1, Option.isSome_none]
      · rw [if_neg (by simp [d]; omega)]
        unfold Sht.len at e ⊢
        have e1 : ¬ (60 : Int) < ((σ.rows[σ.row - 1]?.getD []).length : Int) + (σ.here.length : Int) := by omega
        have g1 := hg (σ.rows.take (σ.row - 1) ++ [σ.rows[σ.row - 1]?.getD [] ++ σ.here] ++ σ.rows.drop (σ.row + 1)) (σ.row - 1) (σ.rows[σ.row - 1]?.getD []).length
        refine ⟨_, ?_, h.put2 (σ.rows.take (σ.row - 1) ++ [σ.rows[σ.row - 1]?.getD [] ++ σ.here] ++ σ.rows.drop (σ.row + 1)) (σ.row - 1) (σ.rows[σ.row - 1]?.getD []).length σ.held⟩
        have q1 : ((σ.row - 1 : Nat) : Int) ≤ ((σ.row + 1 : Nat) : Int) := by omega
        have q2 : ((σ.row + 1 : Nat) : Int) ≤ (σ.rows.length : Int) := by omega
        have q3 : (σ.rows[σ.row - 1]?.getD []).length + σ.here.length ≤ 1000000 := by omega
        have q4 : σ.rows.length + 1 ≤ 1000000 := by omega
        simp_arith only [hi, hh, hs, hlst, rowsW_len, c1, d1, d2, d3, d4, ab, al6, e6, rowOf_len, e1, up1, q1, q2, q3, q4, rowOf_app, rowsW_take, rowsW_drop, rowsW_i1, g1, Option.isSome_some]
theorem part_ok_ {m : M} {s r : Nat} {σ : Sht} (h : Sh m s r σ) (o : σ.ok) : Does F_Sheet_parted [.ref s] m s r σ σ.part := by
  have hh := here_ok h o
  have hi0 := h.ins
  have hi := h.ins
  have hrow := o.row
  have hcol : σ.col ≤ σ.here.length := by rw [here_eq o]; exact o.col
  have e60 : σ.here.length ≤ 60 := by rw [here_eq o]; exact o.len _ (List.getElem_mem o.row)
  have e6 : σ.here.length ≤ 1000000 := by omega
  have hmany := o.many
  have hlst := h.lst
  have hs : ∀ b : B, (m.set r b)[s]? = m[s]? := fun b => List.getElem?_set_ne (Ne.symm h.ne)
  have hg : ∀ (R : List (List Nat)) (a b : Nat), F_Sheet_go [.ref s, .d (.int a), .d (.int b)] (m.set r (.lst (rowsW R))) = _ := fun R a b => go_ok (by rw [hs]; exact hi0)
  unfold shI at hi
  unfold Does F_Sheet_parted B_Sheet_parted Sht.part
  by_cases c : σ.rows.length = 12
  · rw [if_pos c]
    have c1 : (σ.rows.length : Int) = 12 := by omega
    refine ⟨m, ?_, h, .refl⟩
    simp_arith only [hi, hh, hlst, rowsW_len, c1, Option.isSome_none]
  · rw [if_neg c]
    have c1 : ¬ (σ.rows.length : Int) = 12 := by omega
    have up1 : (σ.row : Int) + 1 = ((σ.row + 1 : Nat) : Int) := by omega
    have k1 : cutA σ.here none (some (σ.col : Int)) = σ.here.take σ.col := by rw [cutA_to (by omega)]; rfl
    have k2 : cutA σ.here (some (σ.col : Int)) none = σ.here.drop σ.col := by rw [cutA_from (by omega)]; rfl
    have g1 := hg (σ.rows.take σ.row ++ [σ.here.take σ.col, σ.here.drop σ.col] ++ σ.rows.drop (σ.row + 1)) (σ.row + 1) 0
    simp only [Int.natCast_zero] at g1
    refine ⟨_, ?_, h.put2 (σ.rows.take σ.row ++ [σ.here.take σ.col, σ.here.drop σ.col] ++ σ.rows.drop (σ.row + 1)) (σ.row + 1) 0 σ.held⟩
    have q1 : (σ.row : Int) ≤ ((σ.row + 1 : Nat) : Int) := by omega
    have q2 : ((σ.row + 1 : Nat) : Int) ≤ (σ.rows.length : Int) := by omega
    have q4 : σ.rows.length + 2 ≤ 1000000 := by omega
    simp_arith only [hi, hh, hs, hlst, rowsW_len, c1, e6, rowOf_len, up1, q1, q2, q4, rowOf_cut, k1, k2, rowsW_take, rowsW_drop, rowsW_i2, g1, Option.isSome_some]
theorem copied_ok {m : M} {s r : Nat} {σ : Sht} (h : Sh m s r σ) : F_Sheet_copied [.ref s] m = .ok (.ref m.length) (m ++ [shI (m.length + 1) σ.row σ.col (rowOf σ.held), .lst (rowsW σ.rows)]) := by
  have hi := h.ins
  have hr : ∀ l : M, (m ++ l)[r]? = some (.lst (rowsW σ.rows)) := fun l => app_at h.lst
  unfold shI at hi
  unfold F_Sheet_copied B_Sheet_copied F_Sheet_init B_Sheet_init
  simp_arith only [hi, h.lst, hr, rowsW_frees, m_at0, m_set0, List.append_assoc, List.length_append, shI]
  done
theorem taken_loop (s : Nat) (m : M) (cs : List Nat) (hl : cs.length ≤ 60) : ∀ (l : List Nat) (e f : Nat), cs.drop e = l → e ≤ cs.length → l.length < f →
    loopW B_Sheet_taken_2 B_Sheet_taken_1 f ⟨[.v (.ref s), .v (.d (.str (rowOf cs))), .v (.d (.int e))], m⟩ = .nx ⟨[.v (.ref s), .v (.d (.str (rowOf cs))), .v (.d (.int ((e + (l.takeWhile letter).length : Nat) : Int)))], m⟩
  | _, _, 0, _, _, h => by omega
  | [], e, f + 1, hd, he, _ => by
    have h0 : ¬ (e : Int) < (cs.length : Int) := by
      have := congrArg List.length hd
      rw [List.length_drop, List.length_nil] at this
      omega
    have c : B_Sheet_taken_2 ⟨[.v (.ref s), .v (.d (.str (rowOf cs))), .v (.d (.int e))], m⟩ = .ok false ⟨[.v (.ref s), .v (.d (.str (rowOf cs))), .v (.d (.int e))], m⟩ := by
      unfold B_Sheet_taken_2
      simp_arith only [rowOf_len, h0, show cs.length ≤ 1000000 by omega]
    simp only [loopW, c, bindO, Bool.false_eq_true, if_false]
    rfl
  | x :: l, e, f + 1, hd, he, hf => by
    have h0 : (e : Int) < (cs.length : Int) := by
      have := congrArg List.length hd
      rw [List.length_drop, List.length_cons] at this
      omega
    have hx : cs[e]? = some x := by
      have : (cs.drop e)[0]? = some x := by rw [hd]; rfl
      rwa [List.getElem?_drop, Nat.add_zero] at this
    have hd' : cs.drop (e + 1) = l := by
      rw [← List.drop_drop, hd]
      rfl
    have e1 : (rowOf cs).cps.toList = cs := by simp [rowOf]
    have c : B_Sheet_taken_2 ⟨[.v (.ref s), .v (.d (.str (rowOf cs))), .v (.d (.int e))], m⟩ = .ok (letter x) ⟨[.v (.ref s), .v (.d (.str (rowOf cs))), .v (.d (.int e))], m⟩ := by
      have e2 : ∀ s : S, oInS false (.d (.str ⟨#[x]⟩)) (.d (.str (Str.ofString "abcdefghijklmnopqrstuvwxyz"))) s = .ok (.d (.bool (letter x))) s := fun s => by
        show R.ok _ s = _
        rw [if_neg (by decide), letters_eq]
      unfold B_Sheet_taken_2
      simp_arith only [rowOf_len, h0, show cs.length ≤ 1000000 by omega, show (0 : Int) ≤ (e : Int) by omega, e1, hx, e2]
    rw [List.length_cons] at hf
    simp only [loopW, c, bindO]
    rw [List.takeWhile_cons]
    cases hx2 : letter x with
    | false => rfl
    | true =>
      have up : (e : Int) + 1 = ((e + 1 : Nat) : Int) := by omega
      have b : B_Sheet_taken_1 ⟨[.v (.ref s), .v (.d (.str (rowOf cs))), .v (.d (.int e))], m⟩ = .nx ⟨[.v (.ref s), .v (.d (.str (rowOf cs))), .v (.d (.int ((e + 1 : Nat) : Int)))], m⟩ := by
        unfold B_Sheet_taken_1
        simp_arith only [up]
      simp only [if_true, b]
      have ih := taken_loop s m cs hl l (e + 1) f hd' (by omega) (by omega)
      rw [ih, List.length_cons, show e + 1 + (l.takeWhile letter).length = e + ((l.takeWhile letter).length + 1) by omega]
theorem taken_ok {m : M} {s r : Nat} {σ : Sht} (h : Sh m s r σ) (o : σ.ok) : Does F_Sheet_taken [.ref s] m s r σ σ.taken := by
  have hh := here_ok h o
  obtain ⟨hcol, e60⟩ := here_len o
  have hi := h.ins
  have hrow := o.row
  have hlst := h.lst
  have hw := takeWhile_le (p := letter) (σ.here.drop σ.col)
  rw [List.length_drop] at hw
  have lp := taken_loop s m σ.here e60 (σ.here.drop σ.col) σ.col 1000 rfl hcol (by rw [List.length_drop]; omega)
  have hs : ∀ b : B, (m.set r b)[s]? = m[s]? := fun b => List.getElem?_set_ne (Ne.symm h.ne)
  have hr : ∀ b : B, (m.set s b)[r]? = m[r]? := fun b => List.getElem?_set_ne h.ne
  have h2 : ∀ b : B, (m.set s b)[s]? = some b := fun b => List.getElem?_set_self (getElem?_lt hi)
  unfold shI at hi
  unfold Does F_Sheet_taken B_Sheet_taken Sht.taken
  simp only
  by_cases c : ((σ.here.drop σ.col).takeWhile letter).length = 0
  · rw [if_pos c]
    rw [c] at lp
    refine ⟨m, ?_, h, .refl⟩
    simp_arith only [hi, hh, sWh, lp, Nat.add_zero, Option.isSome_none]
  · rw [if_neg c]
    generalize hW : (σ.here.drop σ.col).takeWhile letter = W' at *
    have ew : (σ.here.take (σ.col + W'.length)).drop σ.col = W' := by
      rw [← hW, List.drop_take, show σ.col + ((σ.here.drop σ.col).takeWhile letter).length - σ.col = ((σ.here.drop σ.col).takeWhile letter).length by omega]
      have := List.takeWhile_prefix (p := letter) (l := σ.here.drop σ.col)
      exact (List.prefix_iff_eq_take.mp this).symm
    have k1 : cutA σ.here none (some (σ.col : Int)) = σ.here.take σ.col := by rw [cutA_to (by omega)]; rfl
    have k2 : cutA σ.here (some ((σ.col + W'.length : Nat) : Int)) none = σ.here.drop (σ.col + W'.length) := by rw [cutA_from (by omega)]; rfl
    have k3 : cutA σ.here (some (σ.col : Int)) (some ((σ.col + W'.length : Nat) : Int)) = W' := by
      rw [cutA_in (by omega) (by omega)]
      exact ew
    have nc : ¬ ((σ.col + W'.length : Nat) : Int) = (σ.col : Int) := by omega
    have l1 : (σ.here.take σ.col).length + (σ.here.drop (σ.col + W'.length)).length ≤ 1000000 := by simp; omega
    have p := h.put ⟨σ.rows.set σ.row (σ.here.take σ.col ++ σ.here.drop (σ.col + W'.length)), σ.row, σ.col, W'⟩
    refine ⟨_, ?_, p.1, p.2⟩
    rw [List.set_comm _ _ (Ne.symm h.ne)]
    simp_arith only [hi, hh, sWh, lp, nc, rowOf_cut, rowOf_app, rowOf_len, k1, k2, k3, show σ.here.length ≤ 1000000 by omega, l1, hlst, hr, h2, rowsW_len, rowsW_set, show ((σ.row : Nat) : Int) < (σ.rows.length : Int) by omega, Option.isSome_some, shI]
    done
theorem found_loop {m : M} {s r : Nat} {σ : Sht} (h : Sh m s r σ) (w : List Nat) (hw : w ≠ []) : ∀ (R : List (List Nat)) (n p0 : Nat) (z3 z4 : Sl), σ.rows.drop n = R → n ≤ σ.rows.length → ∃ p1 y3 y4,
    loopF (gN 3) B_Sheet_found_1 ((List.range' n R.length).map fun (i : Nat) => W.d (.int i)) ⟨[.v (.ref s), .v (.d (.str (rowOf w))), .v (.d (.int ((p0 : Nat) : Int))), z3, z4], m⟩ = match findRows w R n p0 with
    | some p => .rt (.d (.bool true)) ⟨[.v (.ref s), .v (.d (.str (rowOf w))), .v (.d (.int p1)), y3, y4], m.set s (shI r p.1 p.2 (rowOf σ.held))⟩
    | none => .nx ⟨[.v (.ref s), .v (.d (.str (rowOf w))), .v (.d (.int p1)), y3, y4], m⟩
  | [], n, p0, z3, z4, _, _ => ⟨p0, z3, z4, rfl⟩
  | cs :: R, n, p0, z3, z4, hd, hn => by
    have hlt : n < σ.rows.length := by
      have := congrArg List.length hd
      rw [List.length_drop, List.length_cons] at this
      omega
    have hx : σ.rows[n] = cs := by
      have : (σ.rows.drop n)[0]? = some cs := by rw [hd]; rfl
      rw [List.getElem?_drop, Nat.add_zero, List.getElem?_eq_getElem hlt] at this
      injection this
    have hd' : σ.rows.drop (n + 1) = R := by
      rw [← List.drop_drop, hd]
      rfl
    have hi := h.ins
    have hlst := h.lst
    have hg := rowsW_get hlt
    rw [hx] at hg
    have f3 := find3_row (cs := cs) hw p0
    unfold shI at hi
    rw [List.length_cons, List.range'_succ, List.map_cons]
    simp_arith only [y_loop]
    unfold findRows
    cases hf : findFrom cs w p0 with
    | some c =>
      rw [hf] at f3
      have f3 : Txt.find3 (rowOf cs) (rowOf w) p0 = (c : Int) := f3
      have gs := go_sh h n c
      refine ⟨p0, .v (.d (.int n)), .v (.d (.int c)), ?_⟩
      have st : B_Sheet_found_1 ⟨[.v (.ref s), .v (.d (.str (rowOf w))), .v (.d (.int p0)), .v (.d (.int n)), z4], m⟩ = .rt (.d (.bool true)) ⟨[.v (.ref s), .v (.d (.str (rowOf w))), .v (.d (.int p0)), .v (.d (.int n)), .v (.d (.int c))], m.set s (shI r n c (rowOf σ.held))⟩ := by
        unfold B_Sheet_found_1
        simp_arith only [hi, hlst, rowsW_len, hg, show (0 : Int) ≤ (n : Int) by omega, show (n : Int) < (σ.rows.length : Int) by omega, eFind, FE.R.bind, f3, show (0 : Int) ≤ (c : Int) by omega, gs]
      rw [st]
      rfl
    | none =>
      rw [hf] at f3
      have f3 : Txt.find3 (rowOf cs) (rowOf w) p0 = -1 := f3
      have st : B_Sheet_found_1 ⟨[.v (.ref s), .v (.d (.str (rowOf w))), .v (.d (.int p0)), .v (.d (.int n)), z4], m⟩ = .nx ⟨[.v (.ref s), .v (.d (.str (rowOf w))), .v (.d (.int ((0 : Nat) : Int))), .v (.d (.int n)), .v (.d (.int (-1)))], m⟩ := by
        unfold B_Sheet_found_1
        simp_arith only [hi, hlst, rowsW_len, hg, show (0 : Int) ≤ (n : Int) by omega, show (n : Int) < (σ.rows.length : Int) by omega, eFind, FE.R.bind, f3]
      rw [st]
      exact found_loop h w hw R (n + 1) 0 _ _ hd' (by omega)
theorem found_ok {m : M} {s r : Nat} {σ : Sht} (h : Sh m s r σ) (o : σ.ok) (w : List Nat) (hw : w ≠ []) : Does F_Sheet_found [.ref s, .d (.str (rowOf w))] m s r σ (σ.found w) := by
  have hi := h.ins
  have hrow := o.row
  have hmany := o.many
  have hlst := h.lst
  obtain ⟨p1, y3, y4, lp⟩ := found_loop h w hw (σ.rows.drop σ.row) σ.row (σ.col + 1) .no .no rfl (by omega)
  have up : (σ.col : Int) + 1 = ((σ.col + 1 : Nat) : Int) := by omega
  have ln : ((σ.rows.length : Int) - (σ.row : Int)).toNat = (σ.rows.drop σ.row).length := by rw [List.length_drop]; omega
  have hp := fun a b => h.put1 a b σ.held
  unfold shI at hi
  unfold Does F_Sheet_found B_Sheet_found Sht.found
  cases e : findRows w (σ.rows.drop σ.row) σ.row (σ.col + 1) with
  | some p =>
    rw [e] at lp
    simp only at lp
    refine ⟨_, ?_, hp p.1 p.2⟩
    simp_arith only [hi, hlst, rowsW_len, up, show -40000 ≤ (σ.row : Int) by omega, show (σ.row : Int) ≤ 40000 by omega, show -40000 ≤ (σ.rows.length : Int) by omega, show (σ.rows.length : Int) ≤ 40000 by omega, rng2_nat, ln, lp, Option.map_some, Option.isSome_some]
  | none =>
    rw [e] at lp
    simp only at lp
    refine ⟨m, ?_, h, .refl⟩
    simp_arith only [hi, hlst, rowsW_len, up, show -40000 ≤ (σ.row : Int) by omega, show (σ.row : Int) ≤ 40000 by omega, show -40000 ≤ (σ.rows.length : Int) by omega, show (σ.rows.length : Int) ≤ 40000 by omega, rng2_nat, ln, lp, Option.map_none, Option.isSome_none]
theorem do1_does {m : M} {s r : Nat} {σ : Sht} (h : Sh m s r σ) (o : σ.ok) (k : Ky) (hk : k.ok) (h1 : k.single) : Does F_Sheet_do [.ref s, .d k.data] m s r σ (σ.do1 k) := by
  have hi := h.ins
  unfold shI at hi
  unfold F_Sheet_do B_Sheet_do
  cases k with
  | put c =>
    obtain ⟨m', e, p⟩ := lay_ok h o [c] (by simp)
    refine ⟨m', ?_, p⟩
    simp_arith only [Ky.data, Ky.word, Ky.rest, hi, e]
    rfl
  | find w =>
    obtain ⟨m', e, p⟩ := found_ok h o w (fun z => by rw [z] at hk; exact absurd hk.1 (by decide))
    refine ⟨m', ?_, p⟩
    simp_arith only [Ky.data, Ky.word, Ky.rest, hi, e]
    rfl
  | play n k => exact h1.elim
  | till n => exact h1.elim
  | bare b =>
    cases b with
    | brk =>
      obtain ⟨m', e, p⟩ := part_ok_ h o
      refine ⟨m', ?_, p⟩
      simp_arith only [Ky.data, Ky.word, Ky.rest, Bare.word, hi, e]
      rfl
    | rub =>
      obtain ⟨m', e, p⟩ := rub_ok h o
      refine ⟨m', ?_, p⟩
      simp_arith only [Ky.data, Ky.word, Ky.rest, Bare.word, hi, e]
      rfl
    | take =>
      obtain ⟨m', e, p⟩ := taken_ok h o
      refine ⟨m', ?_, p⟩
      simp_arith only [Ky.data, Ky.word, Ky.rest, Bare.word, hi, e]
      rfl
    | lay =>
      by_cases c : σ.held.length = 0
      · have c' : rowOf σ.held = Str.ofString "" := by
          rw [List.length_eq_zero_iff.mp c]
          rfl
        refine ⟨m, ?_, ?_⟩
        · simp_arith only [Ky.data, Ky.word, Ky.rest, Bare.word, hi, c', Sht.do1, c, Option.isSome_none]
        · simp only [Sht.do1, if_pos c, Option.getD_none]
          exact ⟨h, .refl⟩
      · obtain ⟨m', e, p⟩ := lay_ok h o σ.held o.held
        have c' : ¬ rowOf σ.held = Str.ofString "" := fun z => c (by
          have := congrArg Str.length z
          rw [rowOf_len] at this
          exact this)
        have e2 : σ.do1 (.bare .lay) = σ.laid σ.held := if_neg c
        rw [e2]
        refine ⟨m', ?_, p⟩
        simp_arith only [Ky.data, Ky.word, Ky.rest, Bare.word, hi, c', e]
    | left =>
      obtain ⟨m', e, p⟩ := moved_ok h o .left
      refine ⟨m', ?_, p⟩
      simp only [Mv.word] at e
      simp_arith only [Ky.data, Ky.word, Ky.rest, Bare.word, hi, e]
      rfl
    | right =>
      obtain ⟨m', e, p⟩ := moved_ok h o .right
      refine ⟨m', ?_, p⟩
      simp only [Mv.word] at e
      simp_arith only [Ky.data, Ky.word, Ky.rest, Bare.word, hi, e]
      rfl
    | up =>
      obtain ⟨m', e, p⟩ := moved_ok h o .up
      refine ⟨m', ?_, p⟩
      simp only [Mv.word] at e
      simp_arith only [Ky.data, Ky.word, Ky.rest, Bare.word, hi, e]
      rfl
    | down =>
      obtain ⟨m', e, p⟩ := moved_ok h o .down
      refine ⟨m', ?_, p⟩
      simp only [Mv.word] at e
      simp_arith only [Ky.data, Ky.word, Ky.rest, Bare.word, hi, e]
      rfl
    | home =>
      obtain ⟨m', e, p⟩ := moved_ok h o .home
      refine ⟨m', ?_, p⟩
      simp only [Mv.word] at e
      simp_arith only [Ky.data, Ky.word, Ky.rest, Bare.word, hi, e]
      rfl
    | fin =>
      obtain ⟨m', e, p⟩ := moved_ok h o .fin
      refine ⟨m', ?_, p⟩
      simp only [Mv.word] at e
      simp_arith only [Ky.data, Ky.word, Ky.rest, Bare.word, hi, e]
      rfl
/-! draws of texts and keys -/
theorem signs_dr {sl : List Sl} {i : Nat} {e : EF} {rest : M} (hsl : sl[i]? = some .no) (he : ∀ w d, ∃ d' c, e ⟨sl.set i (.v w), dr d rest⟩ = .ok (.d (.str (rowOf [c]))) ⟨sl.set i (.v w), dr d' rest⟩ ∧ signOk c = true) (n : Nat) (d : Dr) :
    ∃ (d' : Dr) (cs : List Nat), loopC i cT e ((List.range n).map fun (j : Nat) => W.d (.int j)) ⟨sl, dr d rest⟩ = .ok (stl (cs.map fun c => ⟨#[c]⟩)) ⟨sl, dr d' rest⟩ ∧ cs.length = n ∧ ∀ c ∈ cs, signOk c = true := by
  obtain ⟨d5, vs, e5, l5, q5⟩ := loopC_dr (Q := fun v => ∃ c, v = .d (.str ⟨#[c]⟩) ∧ signOk c = true) hsl (fun w d => by
    obtain ⟨d', c, e, s⟩ := he w d
    exact ⟨d', _, e, rfl, c, rfl, s⟩) ((List.range n).map fun (i : Nat) => W.d (.int i)) d
  obtain ⟨cs, rfl, l6, g⟩ := row_of q5
  exact ⟨d5, cs, e5, by rw [l6, l5]; simp, g⟩
theorem join_row (cs : List Nat) : Txt.join (Str.ofString "") (cs.map fun c => (⟨#[c]⟩ : Str)) = rowOf cs := join_chs cs
theorem join_fit {cs : List Nat} (h : cs.length ≤ 100000) : ((cs.map fun c => (⟨#[c]⟩ : Str)).map (·.length)).sum + cs.length * (Str.ofString "").length ≤ 1000000 := by
  rw [sum_chs, show (Str.ofString "").length = 0 from rfl]
  omega
theorem text_step (d : Dr) (rest : M) (R : List (List Nat)) (zk zm : Sl) (hR : R.length ≤ 100) : ∃ d' zm' cs, cs.length ≤ 60 ∧ (∀ c ∈ cs, signOk c = true) ∧
    B_law_text_2 ⟨[.v (.ref 2), .own (rowsW R), zk, zm, .no], dr d rest⟩ = .nx ⟨[.v (.ref 2), .own (rowsW (R ++ [cs])), zk, zm', .no], dr d' rest⟩ := by
  have a0 := nx_lo (d := d) (n := 8) (by decide)
  have a1 := nx_hi (d := d) (n := 8) (by decide)
  have b0 := nx_lo (d := st d 8) (n := 20) (by decide)
  have b1 := nx_hi (d := st d 8) (n := 20) (by decide)
  have c0 := nx_lo (d := st (st d 8) 20) (n := 3) (by decide)
  have c1 := nx_hi (d := st (st d 8) 20) (n := 3) (by decide)
  have e0 := nx_lo (d := st (st (st d 8) 20) 3) (n := 6) (by decide)
  obtain ⟨x, hx, px⟩ := pickL (P := fun x => x = W.d (.int 0) ∨ x = W.d (.int 1) ∨ x = W.d (.int 2)) [W.d (.int 0), W.d (.int 0), W.d (.int 0), W.d (.int 1), W.d (.int 1), W.d (.int 2)] (n := 6) (by decide) (st (st (st d 8) 20) 3) (by decide) (by simp)
  obtain ⟨n, hn60, hn⟩ : ∃ n : Nat, n ≤ 60 ∧ ((x = W.d (.int 0) ∧ nx d 8 = (n : Int)) ∨ (x = W.d (.int 1) ∧ nx (st d 8) 20 = (n : Int)) ∨ (x = W.d (.int 2) ∧ 60 - nx (st (st d 8) 20) 3 = (n : Int))) := by
    rcases px with rfl | rfl | rfl
    · exact ⟨(nx d 8).toNat, by omega, .inl ⟨rfl, by omega⟩⟩
    · exact ⟨(nx (st d 8) 20).toNat, by omega, .inr (.inl ⟨rfl, by omega⟩)⟩
    · exact ⟨(60 - nx (st (st d 8) 20) 3).toNat, by omega, .inr (.inr ⟨rfl, by omega⟩)⟩
  obtain ⟨d5, cs, e5, l5, g5⟩ := signs_dr (sl := [.v (.ref 2), .own (rowsW R), zk, .v (.d (.int n)), .no]) (i := 4) (e := B_law_text_1) (rest := rest) rfl (fun w d => by
    obtain ⟨d', c, e, s⟩ := sign_ok d rest
    refine ⟨d', c, ?_, s⟩
    unfold B_law_text_1
    simp_arith only [e]) n (st (st (st (st d 8) 20) 3) 6)
  refine ⟨d5, .v (.d (.int n)), cs, by omega, g5, ?_⟩
  have ap : rowsW (R ++ [cs]) = rowsW R ++ [.d (.str (rowOf cs))] := by rw [← rowsW_app]; rfl
  rw [ap]
  unfold B_law_text_2
  rcases hn with ⟨rfl, hn⟩ | ⟨rfl, hn⟩ | ⟨rfl, hn⟩
  · simp_arith only [nxt, hx, e0, hn, show -40000 ≤ (n : Int) by omega, show (n : Int) ≤ 40000 by omega, e5, stl_allD, join_row, join_fit (show cs.length ≤ 100000 by omega), rowsW_len, show R.length < 1000000 by omega]
  · simp_arith only [nxt, hx, e0, hn, show -40000 ≤ (n : Int) by omega, show (n : Int) ≤ 40000 by omega, e5, stl_allD, join_row, join_fit (show cs.length ≤ 100000 by omega), rowsW_len, show R.length < 1000000 by omega]
  · simp_arith only [nxt, hx, e0, hn, show -40000 ≤ (n : Int) by omega, show (n : Int) ≤ 40000 by omega, e5, stl_allD, join_row, join_fit (show cs.length ≤ 100000 by omega), rowsW_len, show R.length < 1000000 by omega]
/-- what is a text -/
structure TextOk (R : List (List Nat)) : Prop where
  ne : R ≠ []
  many : R.length ≤ 12
  len : ∀ cs ∈ R, cs.length ≤ 60
  sg : sgR R
theorem kJ2_rows {z : Str} {i : Nat} {sl : List Sl} {m : M} {R : List (List Nat)} (hs : sl[i]? = some (.own (rowsW R))) (hf : ((R.map rowOf).map (·.length)).sum + (R.map rowOf).length * z.length ≤ 1000000) : kJ2 z (.ok (.own i) ⟨sl, m⟩) = .ok (.d (.str (Txt.join z (R.map rowOf)))) ⟨sl, m⟩ := by
  have eqs : ∀ ss : List Str, stl ss = ss.map fun z => W.d (.str z) := fun ss => by rw [stl, List.map_map]; rfl
  have rl : readL ⟨sl, m⟩ (.own i) = some ((R.map rowOf).map fun z => W.d (.str z)) := by
    simp only [readL, hs, rowsW, eqs]
  simp only [kJ2, FE.R.bind, rl, allS_map]
  rw [if_pos hf]
theorem text_gen (d : Dr) (rest : M) : ∃ d' R, TextOk R ∧ F_law_text [.ref 2] (dr d rest) = .ok (.d (.str (txt R))) (dr d' rest) := by
  have a0 := nx_lo (d := d) (n := 3) (by decide)
  obtain ⟨A, hA, A0, A1⟩ : ∃ A : Int, [W.d (.int 3), W.d (.int 5), W.d (.int 12)][(nx d 3).toNat]? = some (W.d (.int A)) ∧ 0 < A ∧ A ≤ 12 := by
    obtain ⟨x, hx, px⟩ := pickL (P := fun x => ∃ A : Int, x = W.d (.int A) ∧ 0 < A ∧ A ≤ 12) [W.d (.int 3), W.d (.int 5), W.d (.int 12)] (n := 3) (by decide) d (by decide) (fun x hx => by
      simp only [List.mem_cons, List.not_mem_nil, or_false] at hx
      rcases hx with rfl | rfl | rfl <;> exact ⟨_, rfl, by decide, by decide⟩)
    obtain ⟨A, rfl, h⟩ := px
    exact ⟨A, hx, h⟩
  have b0 := nx_lo (d := st d 3) A0
  have b1 := nx_hi (d := st d 3) A0
  obtain ⟨n, hn⟩ : ∃ n : Nat, 1 + nx (st d 3) A = (n : Int) := ⟨(1 + nx (st d 3) A).toNat, by omega⟩
  obtain ⟨s', e, d5, R, zk, zm, hl, hlen, hsg, rfl⟩ := loopF_inv (g := gN 2) (b := B_law_text_2) ((List.range n).map fun (i : Nat) => W.d (.int i)) (fun i s => ∃ d5 R zk zm, R.length = i ∧ (∀ cs ∈ R, cs.length ≤ 60) ∧ sgR R ∧ s = ⟨[.v (.ref 2), .own (rowsW R), zk, zm, .no], dr d5 rest⟩) (fun i hi s ⟨d5, R, zk, zm, hl, hlen, hsg, hs⟩ => by
    subst hs
    have hi' : i < n := by simpa using hi
    rw [rng_get]
    obtain ⟨d6, zm', cs, l6, g6, e6⟩ := text_step d5 rest R (.v (.d (.int i))) zm (by omega)
    refine ⟨_, _, y_gN rfl, e6, d6, R ++ [cs], _, _, by rw [List.length_append, hl]; rfl, fun c hc => ?_, fun c hc => ?_, rfl⟩
    · rcases List.mem_append.mp hc with h | h
      · exact hlen c h
      · rw [List.mem_singleton.mp h]
        exact l6
    · rcases List.mem_append.mp hc with h | h
      · exact hsg c h
      · rw [List.mem_singleton.mp h]
        exact g6) ⟨[.v (.ref 2), .own [], .no, .no, .no], dr (st (st d 3) A) rest⟩ ⟨_, [], _, _, rfl, fun _ h => (by cases h), fun _ h => (by cases h), rfl⟩
  have hl : R.length = n := by simpa using hl
  have hf := txt_fit (R := R) (by omega) hlen
  refine ⟨d5, R, ⟨fun z => by rw [z] at hl; simp at hl; omega, by omega, hlen, hsg⟩, ?_⟩
  have hf : ((R.map rowOf).map (·.length)).sum + (R.map rowOf).length * (Str.ofString "\n").length ≤ 1000000 := hf
  unfold F_law_text B_law_text
  simp_arith only [nxt, hA, a0, A0, show A < 1000000000 by omega, hn, show -40000 ≤ (n : Int) by omega, show (n : Int) ≤ 40000 by omega, e, kJ2_rows (R := R) (i := 1) (z := Str.ofString "\n") (sl := [.v (.ref 2), .own (rowsW R), zk, zm, .no]) (m := dr d5 rest) rfl hf]
  rfl
theorem single_gen (d : Dr) (rest : M) : ∃ d' k, Ky.ok k ∧ k.single ∧ F_law_single [.ref 2] (dr d rest) = .ok (.d k.data) (dr d' rest) := by
  have a0 := nx_lo (d := d) (n := 14) (by decide)
  obtain ⟨x, hx, px⟩ := pickL (P := fun x => x = W.d (.str (Str.ofString "put")) ∨ x = W.d (.str (Str.ofString "find")) ∨ ∃ b : Bare, x = W.d (.str b.word)) [W.d (.str (Str.ofString "put")), W.d (.str (Str.ofString "put")), W.d (.str (Str.ofString "rub")), W.d (.str (Str.ofString "left")), W.d (.str (Str.ofString "right")), W.d (.str (Str.ofString "right")), W.d (.str (Str.ofString "up")), W.d (.str (Str.ofString "down")), W.d (.str (Str.ofString "home")), W.d (.str (Str.ofString "end")), W.d (.str (Str.ofString "find")), W.d (.str (Str.ofString "take")), W.d (.str (Str.ofString "lay")), W.d (.str (Str.ofString "break"))] (n := 14) (by decide) d (by decide) (fun x hx => by
      simp only [List.mem_cons, List.not_mem_nil, or_false] at hx
      rcases hx with rfl | rfl | rfl | rfl | rfl | rfl | rfl | rfl | rfl | rfl | rfl | rfl | rfl | rfl
      · exact .inl rfl
      · exact .inl rfl
      · exact .inr (.inr ⟨.rub, rfl⟩)
      · exact .inr (.inr ⟨.left, rfl⟩)
      · exact .inr (.inr ⟨.right, rfl⟩)
      · exact .inr (.inr ⟨.right, rfl⟩)
      · exact .inr (.inr ⟨.up, rfl⟩)
      · exact .inr (.inr ⟨.down, rfl⟩)
      · exact .inr (.inr ⟨.home, rfl⟩)
      · exact .inr (.inr ⟨.fin, rfl⟩)
      · exact .inr (.inl rfl)
      · exact .inr (.inr ⟨.take, rfl⟩)
      · exact .inr (.inr ⟨.lay, rfl⟩)
      · exact .inr (.inr ⟨.brk, rfl⟩))
  unfold F_law_single B_law_single
  rcases px with rfl | rfl | ⟨b, rfl⟩
  · obtain ⟨d1, c, e1, s1⟩ := sign_ok (st d 14) rest
    refine ⟨d1, .put c, s1, trivial, ?_⟩
    simp_arith only [nxt, a0, hx, e1]
    rfl
  · have b0 := nx_lo (d := st d 14) (n := 3) (by decide)
    obtain ⟨y, hy, A, rfl, A0, A1⟩ := pickL (P := fun x => ∃ A : Int, x = W.d (.int A) ∧ 0 < A ∧ A ≤ 4) [W.d (.int 1), W.d (.int 2), W.d (.int 4)] (n := 3) (by decide) (st d 14) (by decide) (fun x hx => by
      simp only [List.mem_cons, List.not_mem_nil, or_false] at hx
      rcases hx with rfl | rfl | rfl <;> exact ⟨_, rfl, by decide, by decide⟩)
    have c0 := nx_lo (d := st (st d 14) 3) A0
    have c1 := nx_hi (d := st (st d 14) 3) A0
    obtain ⟨n, hn⟩ : ∃ n : Nat, 1 + nx (st (st d 14) 3) A = (n : Int) := ⟨(1 + nx (st (st d 14) 3) A).toNat, by omega⟩
    obtain ⟨d5, cs, e5, l5, g5⟩ := signs_dr (sl := [.v (.ref 2), .v (.d (.list [.str (Str.ofString "put"), .str (Str.ofString "put"), .str (Str.ofString "rub"), .str (Str.ofString "left"), .str (Str.ofString "right"), .str (Str.ofString "right"), .str (Str.ofString "up"), .str (Str.ofString "down"), .str (Str.ofString "home"), .str (Str.ofString "end"), .str (Str.ofString "find"), .str (Str.ofString "take"), .str (Str.ofString "lay"), .str (Str.ofString "break")])), .v (.d (.str (Str.ofString "find"))), .no]) (i := 3) (e := B_law_single_1) (rest := rest) rfl (fun w d => by
      obtain ⟨d', c, e, s⟩ := sign_ok d rest
      refine ⟨d', c, ?_, s⟩
      unfold B_law_single_1
      simp_arith only [e]) n (st (st (st d 14) 3) A)
    refine ⟨d5, .find cs, ⟨by omega, by omega, g5⟩, trivial, ?_⟩
    simp_arith only [nxt, a0, hx, b0, hy, A0, show A < 1000000000 by omega, hn, show -40000 ≤ (n : Int) by omega, show (n : Int) ≤ 40000 by omega, e5, stl_allD, join_row, join_fit (show cs.length ≤ 100000 by omega)]
    rfl
  · have w1 : ¬ b.word = Str.ofString "put" := by cases b <;> decide +kernel
    have w2 : ¬ b.word = Str.ofString "find" := by cases b <;> decide +kernel
    refine ⟨st d 14, .bare b, trivial, trivial, ?_⟩
    simp_arith only [nxt, a0, hx, w1, w2]
    rfl
def plI (s t q : Nat) (n : Int) : B := .ins (Str.ofString "Player") [(Str.ofString "sheet", .ref s), (Str.ofString "tapes", .ref t), (Str.ofString "many", .d (.int n)), (Str.ofString "strokes", .ref q)]
/-- a player at work on a sheet -/
structure Run (m : M) (p q s r t : Nat) (σ : Sht) (n : Nat) (K : List W) : Prop where
  sh : Sh m s r σ
  ins : m[p]? = some (plI s t q n)
  lst : m[q]? = some (.lst K)
  pq : p ≠ q
  ps : p ≠ s
  pr : p ≠ r
  qs : q ≠ s
  qr : q ≠ r
def Fra4 (p q s r : Nat) (m m' : M) : Prop := m'.length = m.length ∧ ∀ k, k ≠ p → k ≠ q → k ≠ s → k ≠ r → m'[k]? = m[k]?
theorem Fra4.refl {p q s r : Nat} {m : M} : Fra4 p q s r m m := ⟨rfl, fun _ _ _ _ _ => rfl⟩
theorem Fra4.trans {p q s r : Nat} {m m1 m2 : M} (a : Fra4 p q s r m m1) (b : Fra4 p q s r m1 m2) : Fra4 p q s r m m2 := ⟨b.1.trans a.1, fun k h1 h2 h3 h4 => (b.2 k h1 h2 h3 h4).trans (a.2 k h1 h2 h3 h4)⟩
theorem Fra.to4 {p q s r : Nat} {m m' : M} (a : Fra s r m m') : Fra4 p q s r m m' := ⟨a.1, fun k _ _ h3 h4 => a.2 k h3 h4⟩
theorem Run.count {m : M} {p q s r t : Nat} {σ : Sht} {n : Nat} {K : List W} (h : Run m p q s r t σ n K) (hn : n < 400) : F_Player_count [.ref p] m = .ok (.d .none) (m.set p (plI s t q ((n + 1 : Nat) : Int))) ∧ Run (m.set p (plI s t q ((n + 1 : Nat) : Int))) p q s r t σ (n + 1) K ∧ Fra4 p q s r m (m.set p (plI s t q ((n + 1 : Nat) : Int))) := by
  have hl := getElem?_lt h.ins
  have ne : ∀ {k : Nat} {b : B}, k ≠ p → (m.set p b)[k]? = m[k]? := fun h => List.getElem?_set_ne (Ne.symm h)
  refine ⟨?_, ⟨⟨by rw [ne (Ne.symm h.ps), h.sh.ins], by rw [ne (Ne.symm h.pr), h.sh.lst], h.sh.ne⟩, List.getElem?_set_self hl, by rw [ne (Ne.symm h.pq), h.lst], h.pq, h.ps, h.pr, h.qs, h.qr⟩, by rw [List.length_set], fun k h1 _ _ _ => ne h1⟩
  have hi := h.ins
  unfold plI at hi
  have h2 : ∀ b : B, (m.set p b)[p]? = some b := fun b => List.getElem?_set_self hl
  have up : (n : Int) + 1 = ((n + 1 : Nat) : Int) := by omega
  have c : ¬ (400 : Int) < ((n + 1 : Nat) : Int) := by omega
  unfold F_Player_count B_Player_count
  simp_arith only [hi, h2, up, c, plI]
theorem keyN_succ (n : Nat) : F_Player_keyN (n + 1) = F_Player_key (F_Player_played (F_Player_once (F_Player_keyN n))) := rfl
theorem key_single {m : M} {p q s r t : Nat} {σ : Sht} {n : Nat} {K : List W} (Fp : FF) (d : Int) (h : Run m p q s r t σ n K) (o : σ.ok) (hn : n < 400) (hK : K.length < 1000) (k : Ky) (hk : k.ok) (h1 : k.single) :
    ∃ m' K', F_Player_key Fp [.ref p, .d k.data, .d (.int d)] m = .ok (.d (.bool (σ.do1 k).isSome)) m' ∧ Run m' p q s r t ((σ.do1 k).getD σ) (n + 1) K' ∧ K'.length ≤ K.length + 1 ∧ Fra4 p q s r m m' := by
  obtain ⟨e1, h1', f1⟩ := h.count hn
  generalize hm1 : m.set p (plI s t q ((n + 1 : Nat) : Int)) = m1 at e1 h1' f1
  obtain ⟨m2, e2, h2, f2⟩ := do1_does h1'.sh o k hk h1
  have hi := h.ins
  have hi1 := h1'.ins
  have i2 : m2[p]? = some (plI s t q ((n + 1 : Nat) : Int)) := by rw [f2.2 p h.ps h.pr, hi1]
  have l2 : m2[q]? = some (.lst K) := by rw [f2.2 q h.qs h.qr, h1'.lst]
  have h2s := h2.ins
  have h1s := h1'.sh.ins
  unfold plI at hi hi1 i2
  unfold shI at h1s
  unfold F_Player_key B_Player_key
  have go : ∃ w a, k.data = .tuple (.str w :: a) ∧ (w = Str.ofString "play" ∨ w = Str.ofString "till") = False := by
    refine ⟨k.word, k.rest, rfl, ?_⟩
    cases k with
    | put c => simp [w_eq, Ky.word]
    | find w => simp [w_eq, Ky.word]
    | play n k => exact h1.elim
    | till n => exact h1.elim
    | bare b => cases b <;> simp [w_eq, Ky.word, Bare.word]
  obtain ⟨w, a, kd, kw⟩ := go
  rw [kd] at e2
  cases hd : σ.do1 k with
  | none =>
    rw [hd] at e2 h2
    have e2 : F_Sheet_do [W.ref s, W.d (PyData.tuple (PyData.str w :: a))] m1 = R.ok (W.d (PyData.bool false)) m2 := e2
    refine ⟨m2, K, ?_, ⟨h2, i2, l2, h.pq, h.ps, h.pr, h.qs, h.qr⟩, by omega, f1.trans f2.to4⟩
    rw [kd]
    simp_arith only [hi, e1, hi1, kw, h1s, e2, Option.isSome_none]
    done
  | some τ =>
    rw [hd] at e2 h2
    have e2 : F_Sheet_do [W.ref s, W.d (PyData.tuple (PyData.str w :: a))] m1 = R.ok (W.d (PyData.bool true)) m2 := e2
    have lq := getElem?_lt l2
    have ne : ∀ {k : Nat} {b : B}, k ≠ q → (m2.set q b)[k]? = m2[k]? := fun h => List.getElem?_set_ne (Ne.symm h)
    refine ⟨m2.set q (.lst (K ++ [.d k.data])), K ++ [.d k.data], ?_, ⟨⟨by rw [ne (Ne.symm h.qs)]; exact h2.ins, by rw [ne (Ne.symm h.qr)]; exact h2.lst, h2.ne⟩, by rw [ne h.pq]; exact i2, List.getElem?_set_self lq, h.pq, h.ps, h.pr, h.qs, h.qr⟩, by simp, f1.trans (f2.to4.trans ⟨by rw [List.length_set], fun k _ a _ _ => ne a⟩)⟩
    rw [kd]
    simp_arith only [hi, e1, hi1, kw, h1s, e2, i2, l2, show K.length < 1000000 by omega, Option.isSome_some]
    done
def edI (s t pa fu td : Nat) : B := .ins (Str.ofString "Editor") [(Str.ofString "sheet", .ref s), (Str.ofString "tapes", .ref t), (Str.ofString "past", .ref pa), (Str.ofString "future", .ref fu), (Str.ofString "taping", .d .none), (Str.ofString "taped", .ref td)]
/-- an editor that tapes nothing -/
structure Ed (m : M) (e s r t pa fu td : Nat) (σ : Sht) (T : List (Str × W)) (P : List W) : Prop where
  ins : m[e]? = some (edI s t pa fu td)
  sh : Sh m s r σ
  tap : m[t]? = some (.dct T)
  pst : m[pa]? = some (.lst P)
  es : e ≠ s
  er : e ≠ r
  et : e ≠ t
  ep : e ≠ pa
  ps : pa ≠ s
  pr : pa ≠ r
  pt : pa ≠ t
  st : s ≠ t
  rt : r ≠ t
theorem player_ok {m : M} {s t : Nat} : F_Player_init [.ref m.length, .ref s, .ref t] (m ++ [.ins (Str.ofString "Player") []]) = .ok (.d .none) (m ++ [plI s t (m.length + 1) 0, .lst []]) := by
  unfold F_Player_init B_Player_init
  simp_arith only [m_at0, m_set0, List.append_assoc, List.length_append, plI]
  done
theorem press_run {m : M} {e s r t pa fu td : Nat} {σ : Sht} {T : List (Str × W)} {P : List W} (h : Ed m e s r t pa fu td σ T P) : Run (m ++ [shI (m.length + 1) σ.row σ.col (rowOf σ.held), .lst (rowsW σ.rows)] ++ [shI (m.length + 3) σ.row σ.col (rowOf σ.held), .lst (rowsW σ.rows)] ++ [plI (m.length + 2) t (m.length + 5) 0, .lst []]) (m.length + 4) (m.length + 5) (m.length + 2) (m.length + 3) t σ 0 [] := by
  simp only [List.append_assoc, List.cons_append, List.nil_append]
  refine ⟨⟨?_, ?_, by omega⟩, ?_, ?_, by omega, by omega, by omega, by omega, by omega⟩ <;> rw [m_at] <;> rfl
theorem Sh.app {m : M} {s r : Nat} {σ : Sht} (h : Sh m s r σ) (l : M) : Sh (m ++ l) s r σ := ⟨app_at h.ins, app_at h.lst, h.ne⟩
/-- a press, up to the player's end -/
theorem press_ok {m : M} {e s r t pa fu td : Nat} {σ τ : Sht} {T : List (Str × W)} {P : List W} {key : PyData} {b : Bool} (h : Ed m e s r t pa fu td σ T P) (g : sgR σ.rows) (g2 : sgR τ.rows) (hP : P.length < 1000) (hn : F_need_key [.d key] m = .ok (.d .none) m)
    (hk : ∀ (m1 : M) (p q s' r' : Nat), Run m1 p q s' r' t σ 0 [] → m1[t]? = some (.dct T) → t ≠ p → ∃ m2 n' K', F_Player_keyN 22 [.ref p, .d key, .d (.int 0)] m1 = .ok (.d (.bool b)) m2 ∧ Run m2 p q s' r' t τ n' K' ∧ Fra4 p q s' r' m1 m2) :
    ∃ m' s' r' fu' P', F_Editor_press [.ref e, .d key] m = .ok (.d (.bool b)) m' ∧ Ed m' e s' r' t pa fu' td τ T P' ∧ P'.length ≤ P.length + 1 ∧ (∀ k < m.length, k ≠ e → k ≠ pa → m'[k]? = m[k]?) ∧ m.length ≤ m'.length ∧ m.length ≤ s' ∧ m.length ≤ r' := by
  have le := getElem?_lt h.ins
  have lt_ := getElem?_lt h.tap
  have lp := getElem?_lt h.pst
  have run := press_run h
  have c1 := copied_ok h.sh
  have c2 := copied_ok (h.sh.app [shI (m.length + 1) σ.row σ.col (rowOf σ.held), .lst (rowsW σ.rows)])
  generalize hm2 : m ++ [shI (m.length + 1) σ.row σ.col (rowOf σ.held), .lst (rowsW σ.rows)] ++ [shI (m.length + 3) σ.row σ.col (rowOf σ.held), .lst (rowsW σ.rows)] = m2 at *
  have l2 : m2.length = m.length + 4 := by rw [← hm2]; simp
  have old : ∀ {k : Nat} {x : B}, m[k]? = some x → m2[k]? = some x := fun {k x} hx => by rw [← hm2]; exact app_at (app_at hx)
  have c2' : F_Sheet_copied [.ref s] (m ++ [shI (m.length + 1) σ.row σ.col (rowOf σ.held), .lst (rowsW σ.rows)]) = .ok (.ref (m.length + 2)) m2 := by
    rw [c2, ← hm2]
    simp
  have pl := player_ok (m := m2) (s := m.length + 2) (t := t)
  rw [l2] at pl
  obtain ⟨m3, n', K', ek, rn, fr⟩ := hk _ _ _ _ _ run (app_at (old h.tap)) (by omega)
  have l3 : m3.length = m.length + 6 := by rw [fr.1]; simp [l2]
  have old3 : ∀ {k : Nat}, k < m.length → m3[k]? = m[k]? := fun {k} hx => by
    rw [fr.2 k (by omega) (by omega) (by omega) (by omega), List.getElem?_append_left (by omega), ← hm2, List.append_assoc, List.getElem?_append_left hx]
  have i3 : m3[e]? = some (edI s t pa fu td) := by rw [old3 le, h.ins]
  have a3 : m3[m.length]? = some (shI (m.length + 1) σ.row σ.col (rowOf σ.held)) := by
    rw [fr.2 _ (by omega) (by omega) (by omega) (by omega), List.getElem?_append_left (by omega), ← hm2]
    simp
  have a4 : m3[m.length + 1]? = some (.lst (rowsW σ.rows)) := by
    rw [fr.2 _ (by omega) (by omega) (by omega) (by omega), List.getElem?_append_left (by omega), ← hm2, List.append_assoc, m_at]
    rfl
  have ne : ∀ {k : Nat} {x : B}, k ≠ e → (m3.set e x)[k]? = m3[k]? := fun h => List.getElem?_set_ne (Ne.symm h)
  have le3 : e < m3.length := by omega
  have hi := h.ins
  have hsi := h.sh.ins
  have i2 : m2[e]? = some (edI s t pa fu td) := old h.ins
  have ip := rn.ins
  have s3 := rn.sh
  have s4 : Sh (m3.set e (edI (m.length + 2) t pa fu td)) (m.length + 2) (m.length + 3) τ := ⟨by rw [ne (by omega)]; exact s3.ins, by rw [ne (by omega)]; exact s3.lst, s3.ne⟩
  have e4 : (m3.set e (edI (m.length + 2) t pa fu td))[e]? = some (edI (m.length + 2) t pa fu td) := List.getElem?_set_self le3
  have a5 : (m3.set e (edI (m.length + 2) t pa fu td))[m.length]? = some (shI (m.length + 1) σ.row σ.col (rowOf σ.held)) := by rw [ne (by omega), a3]
  have a6 : (m3.set e (edI (m.length + 2) t pa fu td))[m.length + 1]? = some (.lst (rowsW σ.rows)) := by rw [ne (by omega), a4]
  have i1 : ∀ l : M, (m ++ l)[e]? = some (edI s t pa fu td) := fun l => app_at h.ins
  have is1 : ∀ l : M, (m ++ l)[s]? = some (shI r σ.row σ.col (rowOf σ.held)) := fun l => app_at h.sh.ins
  have i22 : ∀ l : M, (m2 ++ l)[e]? = some (edI s t pa fu td) := fun l => app_at i2
  have p22 : (m2 ++ [plI (m.length + 2) t (m.length + 5) 0, .lst []])[m.length + 4]? = some (plI (m.length + 2) t (m.length + 5) 0) := run.ins
  have eq : ∀ sl : List Sl, oEqD true (.ref (m.length + 3)) (.ref (m.length + 1)) ⟨sl, m3.set e (edI (m.length + 2) t pa fu td)⟩ = _ := fun sl => eq_rows s4.lst a6 g2 g
  have s4i := s4.ins
  by_cases c : τ.rows = σ.rows
  · have cd : decide (τ.rows = σ.rows) = true := decide_eq_true c
    refine ⟨m3.set e (edI (m.length + 2) t pa fu td), m.length + 2, m.length + 3, fu, P, ?_, ?_, by omega, fun k h1 h2 h3 => by rw [ne h2, old3 h1], by rw [List.length_set]; omega, by omega, by omega⟩
    · unfold F_Editor_press B_Editor_press
      unfold edI shI plI at *
      simp_arith only [hn, hi, hsi, i1, is1, c1, c2', i2, i22, l2, pl, p22, ek, i3, e4, s4i, a5, eq, cd]
    · exact ⟨e4, s4, by rw [ne (Ne.symm h.et), old3 lt_, h.tap], by rw [ne (Ne.symm h.ep), old3 lp, h.pst], by omega, by omega, h.et, h.ep, by omega, by omega, h.pt, by omega, by omega⟩
  · have cd : decide (τ.rows = σ.rows) = false := decide_eq_false c
    have c5 := copied_ok s4
    have l4 : (m3.set e (edI (m.length + 2) t pa fu td)).length = m.length + 6 := by rw [List.length_set, l3]
    have p4 : (m3.set e (edI (m.length + 2) t pa fu td))[pa]? = some (.lst P) := by rw [ne (Ne.symm h.ep), old3 lp, h.pst]
    have t4 : (m3.set e (edI (m.length + 2) t pa fu td))[t]? = some (.dct T) := by rw [ne (Ne.symm h.et), old3 lt_, h.tap]
    have o4 : ∀ k, k < m.length → k ≠ e → (m3.set e (edI (m.length + 2) t pa fu td))[k]? = m[k]? := fun k h1 h2 => by rw [ne h2, old3 h1]
    generalize hm4 : m3.set e (edI (m.length + 2) t pa fu td) = m4 at *
    rw [l4] at c5
    generalize hm5 : m4 ++ [shI (m.length + 6 + 1) τ.row τ.col (rowOf τ.held), .lst (rowsW τ.rows)] = m5 at *
    have l5 : m5.length = m.length + 8 := by rw [← hm5]; simp [l4]
    have o5 : ∀ {k : Nat} {x : B}, m4[k]? = some x → m5[k]? = some x := fun {k x} hx => by rw [← hm5]; exact app_at hx
    have n6 : ∀ {k : Nat} {x : B}, k ≠ pa → (m5.set pa x)[k]? = m5[k]? := fun h => List.getElem?_set_ne (Ne.symm h)
    have e5 : m5[e]? = some (edI (m.length + 2) t pa fu td) := o5 e4
    have p5 : m5[pa]? = some (.lst P) := o5 p4
    have w6 : ∀ x l, (m5.set pa x ++ l)[e]? = some (edI (m.length + 2) t pa fu td) := fun x l => app_at (by rw [n6 h.ep, e5])
    have s5 : Sh m5 (m.length + 2) (m.length + 3) τ := ⟨o5 s4.ins, o5 s4.lst, s4.ne⟩
    have l6 : ∀ x : B, (m5.set pa x).length = m.length + 8 := fun x => by rw [List.length_set, l5]
    have pk : P.length < 1000000 := by omega
    have n7 : ∀ {k : Nat} {x : B} {M7 : M}, k ≠ e → (M7.set e x)[k]? = M7[k]? := fun h => List.getElem?_set_ne (Ne.symm h)
    have g7 : ∀ k, k < m.length → k ≠ e → k ≠ pa → ∀ (x y : B) (l : M), ((m5.set pa x ++ l).set e y)[k]? = m[k]? := fun k h1 h2 h3 x y l => by
      rw [n7 h2, List.getElem?_append_left (by rw [l6]; omega), n6 h3, ← hm5, List.getElem?_append_left (by omega), o4 k h1 h2]
    have q7 : ∀ k, k < m.length + 8 → k ≠ e → k ≠ pa → ∀ (x y : B) (l : M), ((m5.set pa x ++ l).set e y)[k]? = m5[k]? := fun k h1 h2 h3 x y l => by
      rw [n7 h2, List.getElem?_append_left (by rw [l6]; omega), n6 h3]
    let m8 := ((m5.set pa (B.lst (P ++ [W.tw [W.ref m.length, W.ref (m.length + 6)]])) ++ [B.lst []]).set e (edI (m.length + 2) t pa (m.length + 8) td))
    have E8 : Ed m8 e (m.length + 2) (m.length + 3) t pa (m.length + 8) td τ T (P ++ [.tw [.ref m.length, .ref (m.length + 6)]]) := by
      refine ⟨?_, ⟨?_, ?_, by omega⟩, ?_, ?_, by omega, by omega, h.et, h.ep, by omega, by omega, h.pt, by omega, by omega⟩
      · exact List.getElem?_set_self (by rw [List.length_append, l6]; omega)
      · exact (q7 _ (by omega) (by omega) (by omega) _ _ _).trans s5.ins
      · exact (q7 _ (by omega) (by omega) (by omega) _ _ _).trans s5.lst
      · exact (g7 t lt_ (Ne.symm h.et) (Ne.symm h.pt) _ _ _).trans h.tap
      · show (((_ : M).set e _)[pa]?) = _
        rw [n7 (Ne.symm h.ep), List.getElem?_append_left (by rw [l6]; omega), List.getElem?_set_self (by omega)]
    refine ⟨m8, m.length + 2, m.length + 3, m.length + 8, P ++ [.tw [.ref m.length, .ref (m.length + 6)]], ?_, E8, by simp, fun k h1 h2 h3 => g7 k h1 h2 h3 _ _ _, ?_, by omega, by omega⟩
    · show _ = R.ok _ ((m5.set pa (B.lst (P ++ [W.tw [W.ref m.length, W.ref (m.length + 6)]])) ++ [B.lst []]).set e (edI (m.length + 2) t pa (m.length + 8) td))
      have w7 : ((m5.set pa (B.lst (P ++ [W.tw [W.ref m.length, W.ref (m.length + 6)]])) ++ [B.lst []]).set e (edI (m.length + 2) t pa (m.length + 8) td))[e]? = some (edI (m.length + 2) t pa (m.length + 8) td) := List.getElem?_set_self (by rw [List.length_append, l6]; omega)
      unfold F_Editor_press B_Editor_press
      unfold edI shI plI at *
      simp_arith only [hn, hi, hsi, i1, is1, c1, c2', i2, i22, l2, pl, p22, ek, i3, hm4, e4, s4i, a5, eq, cd, c5, e5, p5, p4, pk, l6, w6, w7]
    · show _ ≤ ((_ : M).set e _).length
      rw [List.length_set, List.length_append, l6]
      omega
theorem need_text_ok {R : List (List Nat)} {m : M} (hne : R ≠ []) (g : sgR R) (h12 : R.length ≤ 12) (h60 : ∀ cs ∈ R, cs.length ≤ 60) : F_need_text [.d (.str (txt R))] m = .ok (.d .none) m := by
  have es := fun s : S => sp_txt (s := s) hne g h12 h60
  have tl_ := txt_len h12 h60
  have comp : loopC 2 B_need_text_2 B_need_text_1 (stl (R.map rowOf)) ⟨[.v (.d (.str (txt R))), .v (.d (.list ((R.map rowOf).map .str))), .no], m⟩ = .ok [] ⟨[.v (.d (.str (txt R))), .v (.d (.list ((R.map rowOf).map .str))), .no], m⟩ := by
    have := loopC_pure (i := 2) (c := B_need_text_2) (e := B_need_text_1) (m := m) (sl := [.v (.d (.str (txt R))), .v (.d (.list ((R.map rowOf).map .str))), .no]) (p := fun _ => false) (f := id) rfl (stl (R.map rowOf)) (fun x hx => ?_) (fun x hx h => by cases h)
    · rw [this, List.filter_eq_nil_iff.mpr (fun _ _ => Bool.false_ne_true)]
      rfl
    · obtain ⟨z, hz, rfl⟩ := stl_mem hx
      obtain ⟨cs, hcs, rfl⟩ := List.mem_map.mp hz
      have h1 := h60 cs hcs
      have h2 : shortS (.str (rowOf cs)) := fun z hz => by
        injection hz with hz
        subst hz
        rw [rowOf_len]
        omega
      have h3 : areSigns (.str (rowOf cs)) 0 60 = true := by
        have ha : (rowOf cs).cps.toList.all signOk = true := by
          rw [List.all_eq_true]
          intro c hc
          exact g cs hcs c (by simpa [rowOf] using hc)
        simp only [areSigns, rowOf_len, ha, Bool.and_true, Bool.and_eq_true, decide_eq_true_eq]
        omega
      unfold B_need_text_2
      simp_arith only [are_signs_ok _ _ _ _ h2, h3]
  have n1 : ¬ (12 : Int) < (R.length : Int) := by omega
  unfold F_need_text B_need_text
  simp_arith only [es, stl_allD, stl_len, n1, show R.length ≤ 100000 by omega, comp, show (List.map W.d (List.map PyData.str (List.map rowOf R))) = stl (R.map rowOf) from rfl]
theorem init_ok {R : List (List Nat)} {m : M} (hne : R ≠ []) (g : sgR R) (h12 : R.length ≤ 12) (h60 : ∀ cs ∈ R, cs.length ≤ 60) : F_Editor_init [.ref m.length, .d (.str (txt R))] (m ++ [.ins (Str.ofString "Editor") []]) =
    .ok (.d .none) (m ++ [edI (m.length + 1) (m.length + 3) (m.length + 4) (m.length + 5) (m.length + 6), shI (m.length + 2) 0 0 (rowOf []), .lst (rowsW R), .dct [], .lst [], .lst [], .lst []]) := by
  have es := fun s : S => sp_txt (s := s) hne g h12 h60
  have tl_ := txt_len h12 h60
  have nt := fun m : M => need_text_ok (m := m) hne g h12 h60
  unfold F_Editor_init B_Editor_init F_Sheet_init B_Sheet_init
  simp_arith only [nt, es, stl_allD, m_at0, m_at, m_set0, m_set, List.append_assoc, List.length_append, show (List.map W.d (List.map PyData.str (List.map rowOf R))) = rowsW R from rfl, rowsW_frees, edI, shI]
  rfl
theorem text_ok {m : M} {e s r t pa fu td : Nat} {σ : Sht} {T : List (Str × W)} {P : List W} (h : Ed m e s r t pa fu td σ T P) (o : σ.ok) : F_Editor_text [.ref e] m = .ok (.d (.str (txt σ.rows))) m := by
  have hi := h.ins
  have hs := h.sh.ins
  have hl := h.sh.lst
  have hf := txt_fit o.many o.len
  unfold edI at hi
  unfold shI at hs
  unfold F_Editor_text B_Editor_text
  have rl : ∀ sl, readL ⟨sl, m⟩ (.ref r) = some (stl (σ.rows.map rowOf)) := fun sl => by
    simp only [readL, hl]
    rfl
  have eqs : ∀ ss : List Str, stl ss = ss.map fun z => W.d (.str z) := fun ss => by rw [stl, List.map_map]; rfl
  have jn : ∀ sl, kJ2 (Str.ofString "\n") (.ok (.ref r) ⟨sl, m⟩) = .ok (.d (.str (txt σ.rows))) ⟨sl, m⟩ := fun sl => by
    simp only [kJ2, R.bind, rl, eqs, allS_map]
    rw [if_pos hf]
    rfl
  simp_arith only [hi, hs, jn]
theorem place_ok {m : M} {e s r t pa fu td : Nat} {σ : Sht} {T : List (Str × W)} {P : List W} (h : Ed m e s r t pa fu td σ T P) : F_Editor_place [.ref e] m = .ok (.d (.tuple [.int σ.row, .int σ.col])) m := by
  have hi := h.ins
  have hs := h.sh.ins
  unfold edI at hi
  unfold shI at hs
  unfold F_Editor_place B_Editor_place
  simp_arith only [hi, hs]
theorem init_ed {R : List (List Nat)} {m : M} : Ed (m ++ [edI (m.length + 1) (m.length + 3) (m.length + 4) (m.length + 5) (m.length + 6), shI (m.length + 2) 0 0 (rowOf []), .lst (rowsW R), .dct [], .lst [], .lst [], .lst []]) m.length (m.length + 1) (m.length + 2) (m.length + 3) (m.length + 4) (m.length + 5) (m.length + 6) ⟨R, 0, 0, []⟩ [] [] := by
  refine ⟨?_, ⟨?_, ?_, by omega⟩, ?_, ?_, by omega, by omega, by omega, by omega, by omega, by omega, by omega, by omega, by omega⟩
  · rw [m_at0]; rfl
  · rw [m_at]; rfl
  · rw [m_at]; rfl
  · rw [m_at]; rfl
  · rw [m_at]; rfl
theorem clip_ok {m : M} {e s r t pa fu td : Nat} {σ : Sht} {T : List (Str × W)} {P : List W} (h : Ed m e s r t pa fu td σ T P) : F_Editor_clip [.ref e] m = .ok (.d (.str (rowOf σ.held))) m := by
  have hi := h.ins
  have hs := h.sh.ins
  unfold edI at hi
  unfold shI at hs
  unfold F_Editor_clip B_Editor_clip
  simp_arith only [hi, hs]
theorem press_single {m : M} {e s r t pa fu td : Nat} {σ : Sht} {T : List (Str × W)} {P : List W} (h : Ed m e s r t pa fu td σ T P) (o : σ.ok) (g : σ.sg) (hP : P.length < 1000) (k : Ky) (hk : k.ok) (h1 : k.single) :
    ∃ m' s' r' fu' P', F_Editor_press [.ref e, .d k.data] m = .ok (.d (.bool (σ.do1 k).isSome)) m' ∧ Ed m' e s' r' t pa fu' td ((σ.do1 k).getD σ) T P' ∧ P'.length ≤ P.length + 1 ∧ (∀ k < m.length, k ≠ e → k ≠ pa → m'[k]? = m[k]?) ∧ m.length ≤ m'.length ∧ m.length ≤ s' ∧ m.length ≤ r' := by
  refine press_ok h g.rows ?_ hP (need_key_ok (Ky.is_key hk) (Ky.short hk)) fun m1 p q s' r' rn _ _ => ?_
  · cases hd : σ.do1 k with
    | none => exact g.rows
    | some τ => exact (do1_sg g hk hd).rows
  · obtain ⟨m', K', a, b, _, c⟩ := key_single (F_Player_played (F_Player_once (F_Player_keyN 21))) 0 rn o (by omega) (by simp) k hk h1
    exact ⟨m', _, K', a, b, c⟩
/-! refusals pass on -/
section
variable {sl : List Sl} {m : M} {e : Er} {p q : SF} {i : Nat} {u : S → R S Bool} {g : EF}
theorem e_ret : kRet sl (.er e m) = .er e m := (rfl)
theorem e_B : kB' (.er e m) = .er e m := (rfl)
theorem e_Not : kNot (.er e m) = .er e m := (rfl)
theorem e_SI : kSI p q (.er e m) = .er e m := (rfl)
theorem e_SE : kSE (.er e m) = .er e m := (rfl)
theorem e_SR : kSR (.er e m) = .er e m := (rfl)
theorem e_Set : kSet i (.er e m) = .er e m := (rfl)
theorem e_And : kAnd g (.er e m) = .er e m := (rfl)
theorem e_raise {c : Str} : sRaise c ⟨sl, m⟩ = .er ⟨c, none⟩ m := (rfl)
end
/-! a player that plays tapes -/
abbrev Tps := List (Str × List Ky)
def tapeW (ks : List Ky) : W := .d (.tuple (ks.map Ky.data))
def tapW (T : Tps) : List (Str × W) := T.map fun y => (y.1, tapeW y.2)
def tapeOf (T : Tps) (n : Nat) : List Ky := (T.lookup (rowOf [n])).getD []
structure PSt where
  sh : Sht
  n : Nat
  ks : List Ky
inductive PR where
  | ok (b : Bool) (s : PSt) | long | no
def allP (kf : Ky → PSt → PR) : List Ky → PSt → PR
  | [], s => .ok true s
  | k :: r, s => match kf k s with
    | .ok true s' => allP kf r s'
    | x => x
def tickP (f : PSt → PR) (s : PSt) : PR := if s.n < 400 then f ⟨s.sh, s.n + 1, s.ks⟩ else .long
def onceP (kf : Ky → PSt → PR) (tape : List Ky) : PSt → PR := tickP (allP kf tape)
def playsP (once : PSt → PR) : Nat → PSt → PR
  | 0, s => .ok true s
  | j + 1, s => match once s with
    | .ok true s' => playsP once j s'
    | x => x
def tillP (once : PSt → PR) : Nat → PSt → PR
  | 0, _ => .no
  | j + 1, s => match once s with
    | .ok true s' => tillP once j s'
    | .ok false s' => .ok true s'
    | x => x
def doneP (T : Tps) (kf : Ky → PSt → PR) (d : Nat) (k : Ky) (s : PSt) : PR := match k with
  | .play n j => if d < 20 then playsP (onceP kf (tapeOf T n)) j s else .ok false s
  | .till n => if d < 20 then tillP (onceP kf (tapeOf T n)) 1000 s else .ok false s
  | k => match s.sh.do1 k with
    | some τ => .ok true ⟨τ, s.n, s.ks ++ [k]⟩
    | none => .ok false s
def keyP (T : Tps) : Nat → Nat → Ky → PSt → PR
  | 0, _, _, _ => .no
  | l + 1, d, k, s => tickP (doneP T (keyP T l (d + 1)) d k) s
/-- the player's boxes stand as told; all else is as it was in m0 -/
structure At (p q s r t : Nat) (m0 m : M) (S : PSt) : Prop where
  run : Run m p q s r t S.sh S.n (S.ks.map fun k => .d k.data)
  ok : S.sh.ok
  sg : S.sh.sg
  len : S.ks.length ≤ S.n
  le : S.n ≤ 400
  fra : Fra4 p q s r m0 m
def tooLong : Er := ⟨Str.ofString "TooLong", none⟩
def Mt (p q s r t : Nat) (m0 : M) (f : R M W) (n : Nat) : PR → Prop
  | .ok b S => n ≤ S.n ∧ ∃ m', f = .ok (.d (.bool b)) m' ∧ At p q s r t m0 m' S
  | .long => ∃ m', f = .er tooLong m' ∧ Fra4 p q s r m0 m'
  | .no => False
structure TapesOk (p q s r t : Nat) (m0 : M) (T : Tps) : Prop where
  tap : m0[t]? = some (.dct (tapW T))
  tp : t ≠ p
  tq : t ≠ q
  ts : t ≠ s
  tr : t ≠ r
  ok : ∀ y ∈ T, ∀ k ∈ y.2, k.ok
theorem tapeOf_ok {T : Tps} (h : ∀ y ∈ T, ∀ k ∈ y.2, Ky.ok k) (n : Nat) : ∀ k ∈ tapeOf T n, k.ok := by
  unfold tapeOf
  cases e : T.lookup (rowOf [n]) with
  | none => exact fun k hk => by cases hk
  | some ks => exact h (rowOf [n], ks) (PySem.mem_of_lookup e)
theorem count_at {p q s r t : Nat} {m0 m : M} {S : PSt} (h : At p q s r t m0 m S) : if S.n < 400 then ∃ m', F_Player_count [.ref p] m = .ok (.d .none) m' ∧ At p q s r t m0 m' ⟨S.sh, S.n + 1, S.ks⟩ else ∃ m', F_Player_count [.ref p] m = .er tooLong m' ∧ Fra4 p q s r m0 m' := by
  have l := h.len
  have l2 := h.le
  split
  · rename_i hn
    obtain ⟨e1, h1, f1⟩ := h.run.count hn
    exact ⟨_, e1, ⟨h1, h.ok, h.sg, by show S.ks.length ≤ S.n + 1; omega, by show S.n + 1 ≤ 400; omega, h.fra.trans f1⟩⟩
  · have en : S.n = 400 := by omega
    have hi := h.run.ins
    have hl := getElem?_lt hi
    unfold plI at hi
    have h2 : ∀ b : B, (m.set p b)[p]? = some b := fun b => List.getElem?_set_self hl
    rw [en] at hi
    have c0 : ((400 : Nat) : Int) + 1 = 401 := by decide
    have c : (400 : Int) < 401 := by decide
    refine ⟨m.set p (.ins (Str.ofString "Player") [(Str.ofString "sheet", .ref s), (Str.ofString "tapes", .ref t), (Str.ofString "many", .d (.int 401)), (Str.ofString "strokes", .ref q)]), ?_, h.fra.trans ⟨by rw [List.length_set], fun k h1 _ _ _ => List.getElem?_set_ne (Ne.symm h1)⟩⟩
    unfold F_Player_count B_Player_count tooLong
    simp_arith only [hi, h2, c0, c, e_raise]
theorem once_loop {p q s r t : Nat} {m0 : M} (kf : Ky → PSt → PR) (Fk : FF) (d : Int) (t0 : Sl) (hk : ∀ k, Ky.ok k → ∀ m S, At p q s r t m0 m S → Mt p q s r t m0 (Fk [.ref p, .d k.data, .d (.int d)] m) S.n (kf k S)) :
    ∀ (ks : List Ky), (∀ k ∈ ks, Ky.ok k) → ∀ (m : M) (S : PSt) (z : Sl), At p q s r t m0 m S → match allP kf ks S with
    | .ok true S' => S.n ≤ S'.n ∧ ∃ m' z', loopF (gN 3) (B_Player_once_1 Fk) (ks.map fun k => .d k.data) ⟨[.v (.ref p), t0, .v (.d (.int d)), z], m⟩ = .nx ⟨[.v (.ref p), t0, .v (.d (.int d)), z'], m'⟩ ∧ At p q s r t m0 m' S'
    | .ok false S' => S.n ≤ S'.n ∧ ∃ m' z', loopF (gN 3) (B_Player_once_1 Fk) (ks.map fun k => .d k.data) ⟨[.v (.ref p), t0, .v (.d (.int d)), z], m⟩ = .rt (.d (.bool false)) ⟨[.v (.ref p), t0, .v (.d (.int d)), z'], m'⟩ ∧ At p q s r t m0 m' S'
    | .long => ∃ m', loopF (gN 3) (B_Player_once_1 Fk) (ks.map fun k => .d k.data) ⟨[.v (.ref p), t0, .v (.d (.int d)), z], m⟩ = .er tooLong m' ∧ Fra4 p q s r m0 m'
    | .no => False
  | [], _, m, S, z, h => ⟨Nat.le_refl _, m, z, rfl, h⟩
  | k :: ks, ok, m, S, z, h => by
    have h1 := hk k (ok k List.mem_cons_self) m S h
    have hi := h.run.ins
    unfold plI at hi
    unfold allP
    rw [List.map_cons]
    cases e : kf k S with
    | no =>
      rw [e] at h1
      exact h1
    | long =>
      rw [e] at h1
      obtain ⟨m1, e1, f1⟩ := h1
      have st : B_Player_once_1 Fk ⟨[.v (.ref p), t0, .v (.d (.int d)), .v (.d k.data)], m⟩ = .er tooLong m1 := by
        unfold B_Player_once_1
        simp_arith only [hi, e1, e_ret, e_B, e_Not, e_SI]
      refine ⟨m1, ?_, f1⟩
      simp_arith only [y_loop, st]
    | ok b S1 =>
      rw [e] at h1
      obtain ⟨l1, m1, e1, a1⟩ := h1
      cases b with
      | false =>
        have st : B_Player_once_1 Fk ⟨[.v (.ref p), t0, .v (.d (.int d)), .v (.d k.data)], m⟩ = .rt (.d (.bool false)) ⟨[.v (.ref p), t0, .v (.d (.int d)), .v (.d k.data)], m1⟩ := by
          unfold B_Player_once_1
          simp_arith only [hi, e1]
        refine ⟨l1, m1, .v (.d k.data), ?_, a1⟩
        simp_arith only [y_loop, st]
      | true =>
        have st : B_Player_once_1 Fk ⟨[.v (.ref p), t0, .v (.d (.int d)), .v (.d k.data)], m⟩ = .nx ⟨[.v (.ref p), t0, .v (.d (.int d)), .v (.d k.data)], m1⟩ := by
          unfold B_Player_once_1
          simp_arith only [hi, e1]
        have lp : loopF (gN 3) (B_Player_once_1 Fk) (.d k.data :: ks.map fun k => .d k.data) ⟨[.v (.ref p), t0, .v (.d (.int d)), z], m⟩ = loopF (gN 3) (B_Player_once_1 Fk) (ks.map fun k => .d k.data) ⟨[.v (.ref p), t0, .v (.d (.int d)), .v (.d k.data)], m1⟩ := by
          simp_arith only [y_loop, st]
        rw [lp]
        have ih := once_loop kf Fk d t0 hk ks (fun k' h' => ok k' (List.mem_cons_of_mem _ h')) m1 S1 (.v (.d k.data)) a1
        simp only
        cases e2 : allP kf ks S1 with
        | no =>
          rw [e2] at ih
          exact ih
        | long =>
          rw [e2] at ih
          exact ih
        | ok b S2 =>
          rw [e2] at ih
          cases b with
          | true => exact ⟨Nat.le_trans l1 ih.1, ih.2⟩
          | false => exact ⟨Nat.le_trans l1 ih.1, ih.2⟩
theorem once_ok {p q s r t : Nat} {m0 m : M} {S : PSt} {kf : Ky → PSt → PR} {Fk : FF} {d : Int} (hk : ∀ k, Ky.ok k → ∀ m S, At p q s r t m0 m S → Mt p q s r t m0 (Fk [.ref p, .d k.data, .d (.int d)] m) S.n (kf k S))
    {ks : List Ky} (ok : ∀ k ∈ ks, Ky.ok k) (hl : ks.length ≤ 100000) (h : At p q s r t m0 m S) : Mt p q s r t m0 (F_Player_once Fk [.ref p, tapeW ks, .d (.int d)] m) (S.n + 1) (onceP kf ks S) := by
  have hc := count_at h
  have hi := h.run.ins
  unfold plI at hi
  have fr : frees (ks.map fun k => W.d k.data) = true := by
    have := frees_map (ks.map Ky.data)
    rwa [List.map_map] at this
  unfold onceP tickP
  unfold F_Player_once B_Player_once tapeW
  split at hc
  · rename_i hn
    obtain ⟨m1, e1, a1⟩ := hc
    rw [if_pos hn]
    have ih := once_loop kf Fk d (.v (.d (.tuple (ks.map Ky.data)))) hk ks ok m1 _ .no a1
    have em : (ks.map Ky.data).map W.d = ks.map fun k => W.d k.data := by rw [List.map_map]; rfl
    cases e2 : allP kf ks ⟨S.sh, S.n + 1, S.ks⟩ with
    | no =>
      rw [e2] at ih
      exact ih
    | long =>
      rw [e2] at ih
      obtain ⟨m2, e3, f3⟩ := ih
      refine ⟨m2, ?_, f3⟩
      simp_arith only [hi, e1, em, fr, hl, e3, y_kSe]
    | ok b S2 =>
      rw [e2] at ih
      cases b with
      | true =>
        obtain ⟨l2, m2, z', e3, a3⟩ := ih
        refine ⟨l2, m2, ?_, a3⟩
        simp_arith only [hi, e1, em, fr, hl, e3]
      | false =>
        obtain ⟨l2, m2, z', e3, a3⟩ := ih
        refine ⟨l2, m2, ?_, a3⟩
        simp_arith only [hi, e1, em, fr, hl, e3]
  · rename_i hn
    obtain ⟨m1, e1, f1⟩ := hc
    rw [if_neg hn]
    refine ⟨m1, ?_, f1⟩
    simp_arith only [hi, e1, e_ret, e_SE, y_kSe]
theorem plays_loop {p q s r t : Nat} {m0 : M} (once : PSt → PR) (Fo : FF) (d : Int) (k0 : Sl) (tw : W) (ho : ∀ m S, At p q s r t m0 m S → Mt p q s r t m0 (Fo [.ref p, tw, .d (.int d)] m) (S.n + 1) (once S)) (hf : free tw = true) :
    ∀ (ws : List W), frees ws = true → ∀ (m : M) (S : PSt) (z : Sl), At p q s r t m0 m S → match playsP once ws.length S with
    | .ok true S' => S.n ≤ S'.n ∧ ∃ m' z', loopF (gN 4) (B_Player_played_3 Fo) ws ⟨[.v (.ref p), k0, .v (.d (.int d)), .v tw, z], m⟩ = .nx ⟨[.v (.ref p), k0, .v (.d (.int d)), .v tw, z'], m'⟩ ∧ At p q s r t m0 m' S'
    | .ok false S' => S.n ≤ S'.n ∧ ∃ m' z', loopF (gN 4) (B_Player_played_3 Fo) ws ⟨[.v (.ref p), k0, .v (.d (.int d)), .v tw, z], m⟩ = .rt (.d (.bool false)) ⟨[.v (.ref p), k0, .v (.d (.int d)), .v tw, z'], m'⟩ ∧ At p q s r t m0 m' S'
    | .long => ∃ m', loopF (gN 4) (B_Player_played_3 Fo) ws ⟨[.v (.ref p), k0, .v (.d (.int d)), .v tw, z], m⟩ = .er tooLong m' ∧ Fra4 p q s r m0 m'
    | .no => False
  | [], _, m, S, z, h => ⟨Nat.le_refl _, m, z, rfl, h⟩
  | w :: ws, hw, m, S, z, h => by
    obtain ⟨hw1, hw2⟩ := Bool.and_eq_true_iff.mp (show (free w && frees ws) = true by rw [← z_cons]; exact hw)
    have h1 := ho m S h
    have hi := h.run.ins
    unfold plI at hi
    rw [List.length_cons]
    unfold playsP
    cases e : once S with
    | no =>
      rw [e] at h1
      exact h1
    | long =>
      rw [e] at h1
      obtain ⟨m1, e1, f1⟩ := h1
      have st : B_Player_played_3 Fo ⟨[.v (.ref p), k0, .v (.d (.int d)), .v tw, .v w], m⟩ = .er tooLong m1 := by
        unfold B_Player_played_3
        simp_arith only [hi, hf, e1, e_ret, e_B, e_Not, e_SI]
      refine ⟨m1, ?_, f1⟩
      simp_arith only [y_loop, st, hw1]
    | ok b S1 =>
      rw [e] at h1
      obtain ⟨l1, m1, e1, a1⟩ := h1
      cases b with
      | false =>
        have st : B_Player_played_3 Fo ⟨[.v (.ref p), k0, .v (.d (.int d)), .v tw, .v w], m⟩ = .rt (.d (.bool false)) ⟨[.v (.ref p), k0, .v (.d (.int d)), .v tw, .v w], m1⟩ := by
          unfold B_Player_played_3
          simp_arith only [hi, hf, e1]
        refine ⟨by omega, m1, .v w, ?_, a1⟩
        simp_arith only [y_loop, st, hw1]
      | true =>
        have st : B_Player_played_3 Fo ⟨[.v (.ref p), k0, .v (.d (.int d)), .v tw, .v w], m⟩ = .nx ⟨[.v (.ref p), k0, .v (.d (.int d)), .v tw, .v w], m1⟩ := by
          unfold B_Player_played_3
          simp_arith only [hi, hf, e1]
        have lp : loopF (gN 4) (B_Player_played_3 Fo) (w :: ws) ⟨[.v (.ref p), k0, .v (.d (.int d)), .v tw, z], m⟩ = loopF (gN 4) (B_Player_played_3 Fo) ws ⟨[.v (.ref p), k0, .v (.d (.int d)), .v tw, .v w], m1⟩ := by
          simp_arith only [y_loop, st, hw1]
        rw [lp]
        have ih := plays_loop once Fo d k0 tw ho hf ws hw2 m1 S1 (.v w) a1
        simp only
        cases e2 : playsP once ws.length S1 with
        | no =>
          rw [e2] at ih
          exact ih
        | long =>
          rw [e2] at ih
          exact ih
        | ok b S2 =>
          rw [e2] at ih
          cases b with
          | true => exact ⟨by have := ih.1; omega, ih.2⟩
          | false => exact ⟨by have := ih.1; omega, ih.2⟩
theorem till_loop {p q s r t : Nat} {m0 : M} (once : PSt → PR) (Fo : FF) (d : Int) (k0 z : Sl) (tw : W) (ho : ∀ m S, At p q s r t m0 m S → Mt p q s r t m0 (Fo [.ref p, tw, .d (.int d)] m) (S.n + 1) (once S)) (hf : free tw = true) :
    ∀ (f : Nat) (m : M) (S : PSt), 400 < f + S.n → At p q s r t m0 m S → match tillP once f S with
    | .ok b S' => b = true ∧ S.n ≤ S'.n ∧ ∃ m', loopW (B_Player_played_2 Fo) (B_Player_played_1 Fo) f ⟨[.v (.ref p), k0, .v (.d (.int d)), .v tw, z], m⟩ = .nx ⟨[.v (.ref p), k0, .v (.d (.int d)), .v tw, z], m'⟩ ∧ At p q s r t m0 m' S'
    | .long => ∃ m', loopW (B_Player_played_2 Fo) (B_Player_played_1 Fo) f ⟨[.v (.ref p), k0, .v (.d (.int d)), .v tw, z], m⟩ = .er tooLong m' ∧ Fra4 p q s r m0 m'
    | .no => False
  | 0, m, S, hfn, h => by
    have := h.le
    omega
  | f + 1, m, S, hfn, h => by
    have h1 := ho m S h
    have hi := h.run.ins
    unfold plI at hi
    unfold tillP
    have cnd : ∀ r : R M W, Fo [.ref p, tw, .d (.int d)] m = r → B_Player_played_2 Fo ⟨[.v (.ref p), k0, .v (.d (.int d)), .v tw, z], m⟩ = kB' (kRet [.v (.ref p), k0, .v (.d (.int d)), .v tw, z] r) := fun r er => by
      unfold B_Player_played_2
      simp_arith only [hi, hf, er]
    cases e : once S with
    | no =>
      rw [e] at h1
      exact h1
    | long =>
      rw [e] at h1
      obtain ⟨m1, e1, f1⟩ := h1
      refine ⟨m1, ?_, f1⟩
      simp only [loopW, cnd _ e1, e_ret, e_B, bindO]
    | ok b S1 =>
      rw [e] at h1
      obtain ⟨l1, m1, e1, a1⟩ := h1
      cases b with
      | false =>
        refine ⟨rfl, by omega, m1, ?_, a1⟩
        simp only [loopW, cnd _ e1, y_kRet, y_kB, bindO, Bool.false_eq_true, if_false]
      | true =>
        have ih := till_loop once Fo d k0 z tw ho hf f m1 S1 (by omega) a1
        have lp : loopW (B_Player_played_2 Fo) (B_Player_played_1 Fo) (f + 1) ⟨[.v (.ref p), k0, .v (.d (.int d)), .v tw, z], m⟩ = loopW (B_Player_played_2 Fo) (B_Player_played_1 Fo) f ⟨[.v (.ref p), k0, .v (.d (.int d)), .v tw, z], m1⟩ := by
          simp only [loopW, cnd _ e1, y_kRet, y_kB, bindO, if_true, B_Player_played_1, sNx]
        rw [lp]
        simp only
        cases e2 : tillP once f S1 with
        | no =>
          rw [e2] at ih
          exact ih
        | long =>
          rw [e2] at ih
          exact ih
        | ok b S2 =>
          rw [e2] at ih
          exact ⟨ih.1, by have := ih.2.1; omega, ih.2.2⟩
theorem look_tapW (n : Nat) : ∀ T : Tps, (look (rowOf [n]) (tapW T)).getD (.d (.tuple [])) = tapeW (tapeOf T n)
  | [] => rfl
  | (y, ks) :: T => by
    show (look (rowOf [n]) ((y, tapeW ks) :: tapW T)).getD _ = tapeW ((List.lookup (rowOf [n]) ((y, ks) :: T)).getD [])
    rw [look_cons, List.lookup_cons]
    by_cases e : y = rowOf [n]
    · subst e
      simp
    · have e2 : (rowOf [n] == y) = false := beq_eq_false_iff_ne.mpr fun z => e z.symm
      rw [if_neg e, e2]
      exact look_tapW n T
theorem At.tap {p q s r t : Nat} {m0 m : M} {S : PSt} {T : Tps} (h : At p q s r t m0 m S) (o : TapesOk p q s r t m0 T) : m[t]? = some (.dct (tapW T)) := by
  rw [h.fra.2 t o.tp o.tq o.ts o.tr]
  exact o.tap
/-- a play or a till, within the depth -/
theorem played_at {p q s r t : Nat} {m0 m : M} {S : PSt} {T : Tps} {kf : Ky → PSt → PR} {Fk : FF} {d : Int} (o : TapesOk p q s r t m0 T) (len : ∀ n, (tapeOf T n).length ≤ 100000) (hk : ∀ k, Ky.ok k → ∀ m S, At p q s r t m0 m S → Mt p q s r t m0 (Fk [.ref p, .d k.data, .d (.int d)] m) S.n (kf k S))
    (h : At p q s r t m0 m S) (k : Ky) (ok : k.ok) (h1 : ¬ k.single) : Mt p q s r t m0 (F_Player_played (F_Player_once Fk) [.ref p, .d k.data, .d (.int d)] m) S.n (match k with
    | .play n j => playsP (onceP kf (tapeOf T n)) j S
    | .till n => tillP (onceP kf (tapeOf T n)) 1000 S
    | _ => .no) := by
  have hi := h.run.ins
  unfold plI at hi
  have ht := h.tap o
  have ho : ∀ n m S, At p q s r t m0 m S → Mt p q s r t m0 (F_Player_once Fk [.ref p, tapeW (tapeOf T n), .d (.int d)] m) (S.n + 1) (onceP kf (tapeOf T n) S) := fun n m S h => once_ok hk (tapeOf_ok o.ok n) (len n) h
  have hf : ∀ n, free (tapeW (tapeOf T n)) = true := fun n => z_d
  generalize F_Player_once Fk = Fo at ho ⊢
  unfold F_Player_played B_Player_played
  cases k with
  | put c => exact absurd True.intro h1
  | find w => exact absurd True.intro h1
  | bare b => exact absurd True.intro h1
  | play n j =>
    have e0 := look_tapW n T
    obtain ⟨hn, hj1, hj2⟩ := ok
    have l1 : ((List.range j).map fun (i : Nat) => W.d (.int i)).length = j := by simp
    have fr : frees ((List.range j).map fun (i : Nat) => W.d (.int i)) = true := by
      have := frees_map ((List.range j).map fun (i : Nat) => PyData.int i)
      rwa [List.map_map] at this
    have ih := plays_loop (onceP kf (tapeOf T n)) Fo d (.v (.d (Ky.play n j).data)) (tapeW (tapeOf T n)) (ho n) (hf n) _ fr m S .no h
    rw [l1] at ih
    have ne : (Str.ofString "play" = Str.ofString "till") = False := by simp; decide
    have hj3 : (-40000 : Int) ≤ (j : Int) := by omega
    have hj4 : (j : Int) ≤ 40000 := by omega
    have jn : ((j : Int)).toNat = j := by omega
    unfold Ky.data at ih ⊢
    simp only [Ky.word, Ky.rest] at ih ⊢
    cases e2 : playsP (onceP kf (tapeOf T n)) j S with
    | no =>
      rw [e2] at ih
      exact ih
    | long =>
      rw [e2] at ih
      obtain ⟨m2, e3, f3⟩ := ih
      refine ⟨m2, ?_, f3⟩
      simp_arith only [hi, ht, e0, hf, ne, hj3, hj4, jn, e3, y_kSe]
    | ok b S2 =>
      rw [e2] at ih
      cases b with
      | true =>
        obtain ⟨l2, m2, z', e3, a3⟩ := ih
        refine ⟨l2, m2, ?_, a3⟩
        simp_arith only [hi, ht, e0, hf, ne, hj3, hj4, jn, e3]
      | false =>
        obtain ⟨l2, m2, z', e3, a3⟩ := ih
        refine ⟨l2, m2, ?_, a3⟩
        simp_arith only [hi, ht, e0, hf, ne, hj3, hj4, jn, e3]
  | till n =>
    have e0 := look_tapW n T
    have ih := till_loop (onceP kf (tapeOf T n)) Fo d (.v (.d (Ky.till n).data)) .no (tapeW (tapeOf T n)) (ho n) (hf n) 1000 m S (by omega) h
    unfold Ky.data at ih ⊢
    simp only [Ky.word, Ky.rest] at ih ⊢
    have wh : ∀ x : FE.S, sWh 1000 (B_Player_played_2 Fo) (B_Player_played_1 Fo) x = loopW (B_Player_played_2 Fo) (B_Player_played_1 Fo) 1000 x := fun _ => rfl
    cases e2 : tillP (onceP kf (tapeOf T n)) 1000 S with
    | no =>
      rw [e2] at ih
      exact ih
    | long =>
      rw [e2] at ih
      obtain ⟨m2, e3, f3⟩ := ih
      refine ⟨m2, ?_, f3⟩
      simp_arith only [hi, ht, e0, hf, wh, e3, y_kSe]
    | ok b S2 =>
      rw [e2] at ih
      obtain ⟨rfl, l2, m2, e3, a3⟩ := ih
      refine ⟨l2, m2, ?_, a3⟩
      simp_arith only [hi, ht, e0, hf, wh, e3]
theorem Mt.mono {p q s r t : Nat} {m0 : M} {f : R M W} {n n' : Nat} {x : PR} (h : Mt p q s r t m0 f n x) (l : n' ≤ n) : Mt p q s r t m0 f n' x := by
  cases x with
  | ok b S => exact ⟨Nat.le_trans l h.1, h.2⟩
  | long => exact h
  | no => exact h
/-- any key, by levels -/
theorem key_at {p q s r t : Nat} {m0 : M} {T : Tps} (o : TapesOk p q s r t m0 T) (len : ∀ n, (tapeOf T n).length ≤ 100000) : ∀ (l d : Nat), 22 ≤ l + d → d ≤ 20 → ∀ k, Ky.ok k → ∀ (m : M) (S : PSt), At p q s r t m0 m S →
    Mt p q s r t m0 (F_Player_keyN l [.ref p, .d k.data, .d (.int d)] m) S.n (keyP T l d k S)
  | 0, d, h1, h2, k, hk, m, S, h => by omega
  | l + 1, d, h1, h2, k, hk, m, S, h => by
    have hc := count_at h
    have hi := h.run.ins
    unfold plI at hi
    rw [keyN_succ]
    unfold keyP tickP
    by_cases hn : S.n < 400
    · rw [if_pos hn] at hc ⊢
      obtain ⟨m1, e1, a1⟩ := hc
      have hi1 := a1.run.ins
      unfold plI at hi1
      by_cases hs : k.single
      · -- a single key
        obtain ⟨m2, e2, h2s, f2⟩ := do1_does a1.run.sh a1.ok k hk hs
        have rn := a1.run
        have i2 : m2[p]? = some (plI s t q ((S.n + 1 : Nat) : Int)) := by rw [f2.2 p rn.ps rn.pr, rn.ins]
        have l2 : m2[q]? = some (.lst (S.ks.map fun k => .d k.data)) := by rw [f2.2 q rn.qs rn.qr, rn.lst]
        have h1s := rn.sh.ins
        unfold plI at i2
        unfold shI at h1s
        have len1 := h.len
        have go : ∃ w a, k.data = .tuple (.str w :: a) ∧ (w = Str.ofString "play" ∨ w = Str.ofString "till") = False := by
          refine ⟨k.word, k.rest, rfl, ?_⟩
          cases k with
          | put c => simp [w_eq, Ky.word]
          | find w => simp [w_eq, Ky.word]
          | play n k => exact hs.elim
          | till n => exact hs.elim
          | bare b => cases b <;> simp [w_eq, Ky.word, Bare.word]
        have dn : doneP T (keyP T l (d + 1)) d k ⟨S.sh, S.n + 1, S.ks⟩ = (match S.sh.do1 k with
            | some τ => .ok true ⟨τ, S.n + 1, S.ks ++ [k]⟩
            | none => .ok false ⟨S.sh, S.n + 1, S.ks⟩) := by
          cases k with
          | put c => rfl
          | find w => rfl
          | play n k => exact hs.elim
          | till n => exact hs.elim
          | bare b => rfl
        rw [dn]
        obtain ⟨w, a, kd, kw⟩ := go
        unfold F_Player_key B_Player_key
        cases hd : S.sh.do1 k with
        | none =>
          rw [hd, kd] at e2
          rw [hd] at h2s
          have e2 : F_Sheet_do [W.ref s, W.d (PyData.tuple (PyData.str w :: a))] m1 = R.ok (W.d (PyData.bool false)) m2 := e2
          refine ⟨by show S.n ≤ S.n + 1; omega, m2, ?_, ⟨⟨h2s, i2, l2, rn.pq, rn.ps, rn.pr, rn.qs, rn.qr⟩, h.ok, h.sg, by show S.ks.length ≤ S.n + 1; omega, by show S.n + 1 ≤ 400; omega, a1.fra.trans f2.to4⟩⟩
          rw [kd]
          simp_arith only [hi, e1, hi1, kw, h1s, e2]
        | some τ =>
          rw [hd, kd] at e2
          rw [hd] at h2s
          have e2 : F_Sheet_do [W.ref s, W.d (PyData.tuple (PyData.str w :: a))] m1 = R.ok (W.d (PyData.bool true)) m2 := e2
          have lq := getElem?_lt l2
          have ne : ∀ {k : Nat} {b : B}, k ≠ q → (m2.set q b)[k]? = m2[k]? := fun h => List.getElem?_set_ne (Ne.symm h)
          refine ⟨by show S.n ≤ S.n + 1; omega, m2.set q (.lst ((S.ks.map fun k => .d k.data) ++ [.d k.data])), ?_, ⟨⟨⟨by rw [ne (Ne.symm rn.qs)]; exact h2s.ins, by rw [ne (Ne.symm rn.qr)]; exact h2s.lst, h2s.ne⟩, by rw [ne rn.pq]; exact i2, ?_, rn.pq, rn.ps, rn.pr, rn.qs, rn.qr⟩, do1_ok h.ok hd, do1_sg h.sg hk hd, ?_, by show S.n + 1 ≤ 400; omega,
            a1.fra.trans (f2.to4.trans ⟨by rw [List.length_set], fun k _ a _ _ => ne a⟩)⟩⟩
          · rw [kd]
            have hlen : S.ks.length < 1000000 := by have := h.le; omega
            simp_arith only [hi, e1, hi1, kw, h1s, e2, i2, l2, hlen]
          · show (m2.set q _)[q]? = some (.lst ((S.ks ++ [k]).map fun k => .d k.data))
            rw [List.map_append]
            exact List.getElem?_set_self lq
          · show (S.ks ++ [k]).length ≤ S.n + 1
            rw [List.length_append]
            simp only [List.length_cons, List.length_nil]
            omega
      · -- a play or a till
        have up : (d : Int) + 1 = ((d + 1 : Nat) : Int) := by omega
        by_cases hd : d < 20
        · have hp := played_at (d := ((d + 1 : Nat) : Int)) o len (fun k hk m S h => key_at o len l (d + 1) (by omega) (by omega) k hk m S h) a1 k hk hs
          have hdI : (d : Int) < 20 := by omega
          unfold F_Player_key B_Player_key doneP
          generalize F_Player_played (F_Player_once (F_Player_keyN l)) = G at hp ⊢
          have fin : ∀ (wd : Str) (rest : List PyData), k.data = .tuple (.str wd :: rest) → (wd = Str.ofString "play" ∨ wd = Str.ofString "till") = True → ∀ x : PR, Mt p q s r t m0 (G [.ref p, .d k.data, .d (.int ((d + 1 : Nat) : Int))] m1) (S.n + 1) x →
              Mt p q s r t m0 (fnF 4 3 (sSeq (sE (eMet (Str.ofString "Player") (Str.ofString "count") 1 F_Player_count (eV 0) aNil))
                (sSeq (sIf (cB (eBin (oIn false) (eBin oIxT (eV 1) (eC (.int 0))) (eTup (aCons (eC (.str (Str.ofString "play"))) (aCons (eC (.str (Str.ofString "till"))) aNil)))))
                  (sRet (eAnd (eBin oLt (eV 2) (eC (.int 20))) (eMet (Str.ofString "Player") (Str.ofString "played") 3 G (eV 0) (aCons (eV 1) (aCons (eBin oAdd (eV 2) (eC (.int 1))) aNil)))))
                  sNx)
                (sSeq (sSet 3 (eMet (Str.ofString "Sheet") (Str.ofString "do") 2 F_Sheet_do (eGet (Str.ofString "Player") (Str.ofString "sheet") (eV 0)) (aCons (eV 1) aNil)))
                (sSeq (sIf (cB (eV 3))
                  (sE (eLm mAppend (eGet (Str.ofString "Player") (Str.ofString "strokes") (eV 0)) (aCons (eV 1) aNil)))
                  sNx)
                (sRet (eV 3)))))) [.ref p, .d k.data, .d (.int d)] m) S.n x := fun wd rest kd kw x hx => by
            cases x with
            | no => exact hx
            | long =>
              obtain ⟨m2, e3, f3⟩ := hx
              rw [kd] at e3
              refine ⟨m2, ?_, f3⟩
              rw [kd]
              simp_arith only [hi, e1, hi1, kw, hdI, up, e3, e_ret, e_SR, y_kSe]
            | ok b S2 =>
              obtain ⟨l3, m2, e3, a3⟩ := hx
              rw [kd] at e3
              refine ⟨by omega, m2, ?_, a3⟩
              rw [kd]
              simp_arith only [hi, e1, hi1, kw, hdI, up, e3]
          cases k with
          | put c => exact absurd True.intro hs
          | find w => exact absurd True.intro hs
          | bare b => exact absurd True.intro hs
          | play n j =>
            simp only [if_pos hd]
            exact fin _ _ rfl (by simp [w_eq, Ky.word]) _ hp
          | till n =>
            simp only [if_pos hd]
            exact fin _ _ rfl (by simp [w_eq, Ky.word]) _ hp
        · have hdI : ¬ (d : Int) < 20 := by omega
          have fin : ∀ (wd : Str) (rest : List PyData), k.data = .tuple (.str wd :: rest) → (wd = Str.ofString "play" ∨ wd = Str.ofString "till") = True →
              Mt p q s r t m0 (F_Player_key (F_Player_played (F_Player_once (F_Player_keyN l))) [.ref p, .d k.data, .d (.int d)] m) S.n (.ok false ⟨S.sh, S.n + 1, S.ks⟩) := fun wd rest kd kw => by
            refine ⟨by show S.n ≤ S.n + 1; omega, m1, ?_, a1⟩
            unfold F_Player_key B_Player_key
            rw [kd]
            simp_arith only [hi, e1, hi1, kw, hdI]
          unfold doneP
          cases k with
          | put c => exact absurd True.intro hs
          | find w => exact absurd True.intro hs
          | bare b => exact absurd True.intro hs
          | play n j =>
            simp only [if_neg hd]
            exact fin _ _ rfl (by simp [w_eq, Ky.word])
          | till n =>
            simp only [if_neg hd]
            exact fin _ _ rfl (by simp [w_eq, Ky.word])
    · rw [if_neg hn] at hc ⊢
      obtain ⟨m1, e1, f1⟩ := hc
      refine ⟨m1, ?_, f1⟩
      unfold F_Player_key B_Player_key
      simp_arith only [hi, e1, e_ret, e_SE, y_kSe]
/-- a press that does not take too long -/
theorem press_big {m : M} {e s r t pa fu td : Nat} {σ τ : Sht} {T : List (Str × W)} {P : List W} {key : PyData} {b : Bool} (h : Ed m e s r t pa fu td σ T P) (g : sgR σ.rows) (g2 : sgR τ.rows) (hP : P.length < 1000) (hn : F_need_key [.d key] m = .ok (.d .none) m)
    (hk : ∀ (m1 : M) (p q s' r' : Nat), Run m1 p q s' r' t σ 0 [] → m1[t]? = some (.dct T) → t ≠ p → t ≠ q → t ≠ s' → t ≠ r' → ∃ m2 n' K', F_Player_keyN 22 [.ref p, .d key, .d (.int 0)] m1 = .ok (.d (.bool b)) m2 ∧ Run m2 p q s' r' t τ n' K' ∧ Fra4 p q s' r' m1 m2) :
    ∃ m', F_Editor_press [.ref e, .d key] m = .ok (.d (.bool b)) m' ∧ m.length + 6 ≤ m'.length ∧ (if τ.rows = σ.rows then Ed m' e (m.length + 2) (m.length + 3) t pa fu td τ T P ∧ ∀ k < m.length, k ≠ e → m'[k]? = m[k]?
      else Ed m' e (m.length + 2) (m.length + 3) t pa (m.length + 8) td τ T (P ++ [.tw [.ref m.length, .ref (m.length + 6)]]) ∧ Sh m' m.length (m.length + 1) σ ∧ Sh m' (m.length + 6) (m.length + 7) τ ∧ m'[m.length + 8]? = some (.lst []) ∧ m.length + 9 ≤ m'.length ∧
        ∀ k < m.length, k ≠ e → k ≠ pa → m'[k]? = m[k]?) := by
  have le := getElem?_lt h.ins
  have lt_ := getElem?_lt h.tap
  have lp := getElem?_lt h.pst
  have run := press_run h
  have c1 := copied_ok h.sh
  have c2 := copied_ok (h.sh.app [shI (m.length + 1) σ.row σ.col (rowOf σ.held), .lst (rowsW σ.rows)])
  generalize hm2 : m ++ [shI (m.length + 1) σ.row σ.col (rowOf σ.held), .lst (rowsW σ.rows)] ++ [shI (m.length + 3) σ.row σ.col (rowOf σ.held), .lst (rowsW σ.rows)] = m2 at *
  have l2 : m2.length = m.length + 4 := by rw [← hm2]; simp
  have old : ∀ {k : Nat} {x : B}, m[k]? = some x → m2[k]? = some x := fun {k x} hx => by rw [← hm2]; exact app_at (app_at hx)
  have c2' : F_Sheet_copied [.ref s] (m ++ [shI (m.length + 1) σ.row σ.col (rowOf σ.held), .lst (rowsW σ.rows)]) = .ok (.ref (m.length + 2)) m2 := by
    rw [c2, ← hm2]
    simp
  have pl := player_ok (m := m2) (s := m.length + 2) (t := t)
  rw [l2] at pl
  obtain ⟨m3, n', K', ek, rn, fr⟩ := hk _ _ _ _ _ run (app_at (old h.tap)) (by omega) (by omega) (by omega) (by omega)
  have l3 : m3.length = m.length + 6 := by rw [fr.1]; simp [l2]
  have old3 : ∀ {k : Nat}, k < m.length → m3[k]? = m[k]? := fun {k} hx => by
    rw [fr.2 k (by omega) (by omega) (by omega) (by omega), List.getElem?_append_left (by omega), ← hm2, List.append_assoc, List.getElem?_append_left hx]
  have i3 : m3[e]? = some (edI s t pa fu td) := by rw [old3 le, h.ins]
  have a3 : m3[m.length]? = some (shI (m.length + 1) σ.row σ.col (rowOf σ.held)) := by
    rw [fr.2 _ (by omega) (by omega) (by omega) (by omega), List.getElem?_append_left (by omega), ← hm2]
    simp
  have a4 : m3[m.length + 1]? = some (.lst (rowsW σ.rows)) := by
    rw [fr.2 _ (by omega) (by omega) (by omega) (by omega), List.getElem?_append_left (by omega), ← hm2, List.append_assoc, m_at]
    rfl
  have ne : ∀ {k : Nat} {x : B}, k ≠ e → (m3.set e x)[k]? = m3[k]? := fun h => List.getElem?_set_ne (Ne.symm h)
  have le3 : e < m3.length := by omega
  have hi := h.ins
  have hsi := h.sh.ins
  have i2 : m2[e]? = some (edI s t pa fu td) := old h.ins
  have ip := rn.ins
  have s3 := rn.sh
  have s4 : Sh (m3.set e (edI (m.length + 2) t pa fu td)) (m.length + 2) (m.length + 3) τ := ⟨by rw [ne (by omega)]; exact s3.ins, by rw [ne (by omega)]; exact s3.lst, s3.ne⟩
  have e4 : (m3.set e (edI (m.length + 2) t pa fu td))[e]? = some (edI (m.length + 2) t pa fu td) := List.getElem?_set_self le3
  have a5 : (m3.set e (edI (m.length + 2) t pa fu td))[m.length]? = some (shI (m.length + 1) σ.row σ.col (rowOf σ.held)) := by rw [ne (by omega), a3]
  have a6 : (m3.set e (edI (m.length + 2) t pa fu td))[m.length + 1]? = some (.lst (rowsW σ.rows)) := by rw [ne (by omega), a4]
  have i1 : ∀ l : M, (m ++ l)[e]? = some (edI s t pa fu td) := fun l => app_at h.ins
  have is1 : ∀ l : M, (m ++ l)[s]? = some (shI r σ.row σ.col (rowOf σ.held)) := fun l => app_at h.sh.ins
  have i22 : ∀ l : M, (m2 ++ l)[e]? = some (edI s t pa fu td) := fun l => app_at i2
  have p22 : (m2 ++ [plI (m.length + 2) t (m.length + 5) 0, .lst []])[m.length + 4]? = some (plI (m.length + 2) t (m.length + 5) 0) := run.ins
  have eq : ∀ sl : List Sl, oEqD true (.ref (m.length + 3)) (.ref (m.length + 1)) ⟨sl, m3.set e (edI (m.length + 2) t pa fu td)⟩ = _ := fun sl => eq_rows s4.lst a6 g2 g
  have s4i := s4.ins
  by_cases c : τ.rows = σ.rows
  · have cd : decide (τ.rows = σ.rows) = true := decide_eq_true c
    simp only [if_pos c]
    refine ⟨m3.set e (edI (m.length + 2) t pa fu td), ?_, by rw [List.length_set]; omega, ?_, fun k h1 h2 => by rw [ne h2, old3 h1]⟩
    · unfold F_Editor_press B_Editor_press
      unfold edI shI plI at *
      simp_arith only [hn, hi, hsi, i1, is1, c1, c2', i2, i22, l2, pl, p22, ek, i3, e4, s4i, a5, eq, cd]
    · exact ⟨e4, s4, by rw [ne (Ne.symm h.et), old3 lt_, h.tap], by rw [ne (Ne.symm h.ep), old3 lp, h.pst], by omega, by omega, h.et, h.ep, by omega, by omega, h.pt, by omega, by omega⟩
  · have cd : decide (τ.rows = σ.rows) = false := decide_eq_false c
    have c5 := copied_ok s4
    have l4 : (m3.set e (edI (m.length + 2) t pa fu td)).length = m.length + 6 := by rw [List.length_set, l3]
    have p4 : (m3.set e (edI (m.length + 2) t pa fu td))[pa]? = some (.lst P) := by rw [ne (Ne.symm h.ep), old3 lp, h.pst]
    have t4 : (m3.set e (edI (m.length + 2) t pa fu td))[t]? = some (.dct T) := by rw [ne (Ne.symm h.et), old3 lt_, h.tap]
    have o4 : ∀ k, k < m.length → k ≠ e → (m3.set e (edI (m.length + 2) t pa fu td))[k]? = m[k]? := fun k h1 h2 => by rw [ne h2, old3 h1]
    generalize hm4 : m3.set e (edI (m.length + 2) t pa fu td) = m4 at *
    rw [l4] at c5
    generalize hm5 : m4 ++ [shI (m.length + 6 + 1) τ.row τ.col (rowOf τ.held), .lst (rowsW τ.rows)] = m5 at *
    have l5 : m5.length = m.length + 8 := by rw [← hm5]; simp [l4]
    have o5 : ∀ {k : Nat} {x : B}, m4[k]? = some x → m5[k]? = some x := fun {k x} hx => by rw [← hm5]; exact app_at hx
    have n6 : ∀ {k : Nat} {x : B}, k ≠ pa → (m5.set pa x)[k]? = m5[k]? := fun h => List.getElem?_set_ne (Ne.symm h)
    have e5 : m5[e]? = some (edI (m.length + 2) t pa fu td) := o5 e4
    have p5 : m5[pa]? = some (.lst P) := o5 p4
    have w6 : ∀ x l, (m5.set pa x ++ l)[e]? = some (edI (m.length + 2) t pa fu td) := fun x l => app_at (by rw [n6 h.ep, e5])
    have s5 : Sh m5 (m.length + 2) (m.length + 3) τ := ⟨o5 s4.ins, o5 s4.lst, s4.ne⟩
    have l6 : ∀ x : B, (m5.set pa x).length = m.length + 8 := fun x => by rw [List.length_set, l5]
    have pk : P.length < 1000000 := by omega
    have n7 : ∀ {k : Nat} {x : B} {M7 : M}, k ≠ e → (M7.set e x)[k]? = M7[k]? := fun h => List.getElem?_set_ne (Ne.symm h)
    have g7 : ∀ k, k < m.length → k ≠ e → k ≠ pa → ∀ (x y : B) (l : M), ((m5.set pa x ++ l).set e y)[k]? = m[k]? := fun k h1 h2 h3 x y l => by
      rw [n7 h2, List.getElem?_append_left (by rw [l6]; omega), n6 h3, ← hm5, List.getElem?_append_left (by omega), o4 k h1 h2]
    have q7 : ∀ k, k < m.length + 8 → k ≠ e → k ≠ pa → ∀ (x y : B) (l : M), ((m5.set pa x ++ l).set e y)[k]? = m5[k]? := fun k h1 h2 h3 x y l => by
      rw [n7 h2, List.getElem?_append_left (by rw [l6]; omega), n6 h3]
    let m8 := ((m5.set pa (B.lst (P ++ [W.tw [W.ref m.length, W.ref (m.length + 6)]])) ++ [B.lst []]).set e (edI (m.length + 2) t pa (m.length + 8) td))
    have E8 : Ed m8 e (m.length + 2) (m.length + 3) t pa (m.length + 8) td τ T (P ++ [.tw [.ref m.length, .ref (m.length + 6)]]) := by
      refine ⟨?_, ⟨?_, ?_, by omega⟩, ?_, ?_, by omega, by omega, h.et, h.ep, by omega, by omega, h.pt, by omega, by omega⟩
      · exact List.getElem?_set_self (by rw [List.length_append, l6]; omega)
      · exact (q7 _ (by omega) (by omega) (by omega) _ _ _).trans s5.ins
      · exact (q7 _ (by omega) (by omega) (by omega) _ _ _).trans s5.lst
      · exact (g7 t lt_ (Ne.symm h.et) (Ne.symm h.pt) _ _ _).trans h.tap
      · show (((_ : M).set e _)[pa]?) = _
        rw [n7 (Ne.symm h.ep), List.getElem?_append_left (by rw [l6]; omega), List.getElem?_set_self (by omega)]
    have l8 : m8.length = m.length + 9 := by
      show ((_ : M).set e _).length = _
      rw [List.length_set, List.length_append, l6]
      rfl
    have b4 : ∀ k, k < m.length + 6 → m5[k]? = m4[k]? := fun k hk => by
      rw [← hm5, List.getElem?_append_left (by omega)]
    have u1 : m8[m.length]? = some (shI (m.length + 1) σ.row σ.col (rowOf σ.held)) := (q7 _ (by omega) (by omega) (by omega) _ _ _).trans ((b4 _ (by omega)).trans a5)
    have u2 : m8[m.length + 1]? = some (.lst (rowsW σ.rows)) := (q7 _ (by omega) (by omega) (by omega) _ _ _).trans ((b4 _ (by omega)).trans a6)
    have u3 : m8[m.length + 6]? = some (shI (m.length + 7) τ.row τ.col (rowOf τ.held)) := (q7 _ (by omega) (by omega) (by omega) _ _ _).trans (by
      rw [← hm5, List.getElem?_append_right (by omega), l4, Nat.sub_self]
      rfl)
    have u4 : m8[m.length + 7]? = some (.lst (rowsW τ.rows)) := (q7 _ (by omega) (by omega) (by omega) _ _ _).trans (by
      rw [← hm5, List.getElem?_append_right (by omega), l4, show m.length + 7 - (m.length + 6) = 1 by omega]
      rfl)
    have u5 : m8[m.length + 8]? = some (.lst []) := by
      show ((_ : M).set e _)[m.length + 8]? = _
      rw [n7 (by omega), List.getElem?_append_right (by rw [l6]; omega), l6, Nat.sub_self]
      rfl
    simp only [if_neg c]
    refine ⟨m8, ?_, by omega, E8, ⟨u1, u2, by omega⟩, ⟨u3, u4, by omega⟩, u5, by omega, fun k h1 h2 h3 => g7 k h1 h2 h3 _ _ _⟩
    show _ = R.ok _ ((m5.set pa (B.lst (P ++ [W.tw [W.ref m.length, W.ref (m.length + 6)]])) ++ [B.lst []]).set e (edI (m.length + 2) t pa (m.length + 8) td))
    have w7 : ((m5.set pa (B.lst (P ++ [W.tw [W.ref m.length, W.ref (m.length + 6)]])) ++ [B.lst []]).set e (edI (m.length + 2) t pa (m.length + 8) td))[e]? = some (edI (m.length + 2) t pa (m.length + 8) td) := List.getElem?_set_self (by rw [List.length_append, l6]; omega)
    unfold F_Editor_press B_Editor_press
    unfold edI shI plI at *
    simp_arith only [hn, hi, hsi, i1, is1, c1, c2', i2, i22, l2, pl, p22, ek, i3, hm4, e4, s4i, a5, eq, cd, c5, e5, p5, p4, pk, l6, w6, w7]
/-- a press that takes too long: nothing old is changed -/
theorem press_long {m : M} {e s r t pa fu td : Nat} {σ : Sht} {T : List (Str × W)} {P : List W} {key : PyData} (h : Ed m e s r t pa fu td σ T P) (hn : F_need_key [.d key] m = .ok (.d .none) m)
    (hk : ∀ (m1 : M) (p q s' r' : Nat), Run m1 p q s' r' t σ 0 [] → m1[t]? = some (.dct T) → t ≠ p → t ≠ q → t ≠ s' → t ≠ r' → ∃ m2, F_Player_keyN 22 [.ref p, .d key, .d (.int 0)] m1 = .er tooLong m2 ∧ Fra4 p q s' r' m1 m2) :
    ∃ m', F_Editor_press [.ref e, .d key] m = .er tooLong m' ∧ m.length ≤ m'.length ∧ ∀ k < m.length, m'[k]? = m[k]? := by
  have le := getElem?_lt h.ins
  have lt_ := getElem?_lt h.tap
  have run := press_run h
  have c1 := copied_ok h.sh
  have c2 := copied_ok (h.sh.app [shI (m.length + 1) σ.row σ.col (rowOf σ.held), .lst (rowsW σ.rows)])
  generalize hm2 : m ++ [shI (m.length + 1) σ.row σ.col (rowOf σ.held), .lst (rowsW σ.rows)] ++ [shI (m.length + 3) σ.row σ.col (rowOf σ.held), .lst (rowsW σ.rows)] = m2 at *
  have l2 : m2.length = m.length + 4 := by rw [← hm2]; simp
  have old : ∀ {k : Nat} {x : B}, m[k]? = some x → m2[k]? = some x := fun {k x} hx => by rw [← hm2]; exact app_at (app_at hx)
  have c2' : F_Sheet_copied [.ref s] (m ++ [shI (m.length + 1) σ.row σ.col (rowOf σ.held), .lst (rowsW σ.rows)]) = .ok (.ref (m.length + 2)) m2 := by
    rw [c2, ← hm2]
    simp
  have pl := player_ok (m := m2) (s := m.length + 2) (t := t)
  rw [l2] at pl
  obtain ⟨m3, ek, fr⟩ := hk _ _ _ _ _ run (app_at (old h.tap)) (by omega) (by omega) (by omega) (by omega)
  have l3 : m3.length = m.length + 6 := by rw [fr.1]; simp [l2]
  have old3 : ∀ {k : Nat}, k < m.length → m3[k]? = m[k]? := fun {k} hx => by
    rw [fr.2 k (by omega) (by omega) (by omega) (by omega), List.getElem?_append_left (by omega), ← hm2, List.append_assoc, List.getElem?_append_left hx]
  have hi := h.ins
  have hsi := h.sh.ins
  have i2 : m2[e]? = some (edI s t pa fu td) := old h.ins
  have i1 : ∀ l : M, (m ++ l)[e]? = some (edI s t pa fu td) := fun l => app_at h.ins
  have is1 : ∀ l : M, (m ++ l)[s]? = some (shI r σ.row σ.col (rowOf σ.held)) := fun l => app_at h.sh.ins
  have i22 : ∀ l : M, (m2 ++ l)[e]? = some (edI s t pa fu td) := fun l => app_at i2
  have p22 : (m2 ++ [plI (m.length + 2) t (m.length + 5) 0, .lst []])[m.length + 4]? = some (plI (m.length + 2) t (m.length + 5) 0) := run.ins
  refine ⟨m3, ?_, by omega, fun k hk => old3 hk⟩
  unfold F_Editor_press B_Editor_press
  unfold edI shI plI at *
  simp_arith only [hn, hi, hsi, i1, is1, c1, c2', i2, i22, l2, pl, p22, ek, e_ret, e_Set, y_kSe]
/-! draws of keys -/
theorem pickN {A : Int} (d : Dr) (h0 : 0 < A) (h8 : A ≤ 8) : ∃ c, (Str.ofString "abcdefgh").cps.toList[(nx d A).toNat]? = some c ∧ nameOk c := by
  have h1 := nx_lo (d := d) h0
  have h2 := nx_hi (d := d) h0
  obtain ⟨j, hj⟩ : ∃ j : Nat, nx d A = (j : Int) := ⟨(nx d A).toNat, by omega⟩
  rw [hj]
  have hl : (Str.ofString "abcdefgh").cps.toList = [97, 98, 99, 100, 101, 102, 103, 104] := by decide +kernel
  rw [hl]
  have : j = 0 ∨ j = 1 ∨ j = 2 ∨ j = 3 ∨ j = 4 ∨ j = 5 ∨ j = 6 ∨ j = 7 := by omega
  rcases this with rfl | rfl | rfl | rfl | rfl | rfl | rfl | rfl <;> exact ⟨_, rfl, by decide, by decide⟩
theorem key_gen (d : Dr) (rest : M) : ∃ d' k, Ky.ok k ∧ F_law_key [.ref 2] (dr d rest) = .ok (.d k.data) (dr d' rest) := by
  have a0 := nx_lo (d := d) (n := 8) (by decide)
  have l8 : (Str.ofString "abcdefgh").length ≤ 1000000 := by decide +kernel
  obtain ⟨y, hy, A, rfl, A0, A1⟩ := pickL (P := fun x => ∃ A : Int, x = W.d (.int A) ∧ 0 < A ∧ A ≤ 8) [W.d (.int 2), W.d (.int 3), W.d (.int 8)] (n := 3) (by decide) (st d 8) (by decide) (fun x hx => by
    simp only [List.mem_cons, List.not_mem_nil, or_false] at hx
    rcases hx with rfl | rfl | rfl <;> exact ⟨_, rfl, by decide, by decide⟩)
  have b0 := nx_lo (d := st d 8) (n := 3) (by decide)
  obtain ⟨c, hc, oc⟩ := pickN (st (st d 8) 3) A0 A1
  have c0 := nx_lo (d := st (st d 8) 3) A0
  unfold F_law_key B_law_key
  by_cases z0 : nx d 8 = 0
  · obtain ⟨y2, hy2, B, rfl, B0, B1⟩ := pickL (P := fun x => ∃ A : Int, x = W.d (.int A) ∧ 0 < A ∧ A ≤ 9) [W.d (.int 2), W.d (.int 9)] (n := 2) (by decide) (st (st (st d 8) 3) A) (by decide) (fun x hx => by
      simp only [List.mem_cons, List.not_mem_nil, or_false] at hx
      rcases hx with rfl | rfl <;> exact ⟨_, rfl, by decide, by decide⟩)
    have e0 := nx_lo (d := st (st (st d 8) 3) A) (n := 2) (by decide)
    have f0 := nx_lo (d := st (st (st (st d 8) 3) A) 2) B0
    have f1 := nx_hi (d := st (st (st (st d 8) 3) A) 2) B0
    obtain ⟨n, hn⟩ : ∃ n : Nat, 1 + nx (st (st (st (st d 8) 3) A) 2) B = (n : Int) := ⟨(1 + nx (st (st (st (st d 8) 3) A) 2) B).toNat, by omega⟩
    refine ⟨st (st (st (st (st d 8) 3) A) 2) B, .play c n, ⟨oc, by omega, by omega⟩, ?_⟩
    simp_arith only [nxt, z0, A0, show A < 1000000000 by omega, B0, show B < 1000000000 by omega, b0, hy, l8, c0, hc, e0, hy2, hn]
    rfl
  · by_cases z1 : nx d 8 = 1
    · refine ⟨st (st (st d 8) 3) A, .till c, oc, ?_⟩
      have z2 : ¬ (1 : Int) = 0 := by decide
      simp_arith only [nxt, z1, z2, A0, show A < 1000000000 by omega, b0, hy, l8, c0, hc]
      rfl
    · obtain ⟨d1, k, k1, k2, e1⟩ := single_gen (st d 8) rest
      refine ⟨d1, k, k1, ?_⟩
      simp_arith only [nxt, z0, z1, e1]
theorem keys_of {vs : List W} (h : ∀ v ∈ vs, ∃ k : Ky, v = .d k.data ∧ k.ok) : ∃ ks : List Ky, vs = (ks.map Ky.data).map W.d ∧ ks.length = vs.length ∧ ∀ k ∈ ks, k.ok := by
  induction vs with
  | nil => exact ⟨[], rfl, rfl, fun _ h => by cases h⟩
  | cons v vs ih =>
    obtain ⟨k, rfl, ok⟩ := h v List.mem_cons_self
    obtain ⟨ks, rfl, hl, oks⟩ := ih fun u hu => h u (List.mem_cons_of_mem _ hu)
    refine ⟨k :: ks, rfl, by simp, fun q hq => ?_⟩
    rcases List.mem_cons.mp hq with rfl | hq
    · exact ok
    · exact oks q hq
theorem tape_gen (d : Dr) (rest : M) (most : Int) (h0 : 0 ≤ most) (h1 : most ≤ 30) : ∃ d' ks, (ks.length : Int) ≤ most ∧ (∀ k ∈ ks, Ky.ok k) ∧ F_law_tape [.ref 2, .d (.int most)] (dr d rest) = .ok (tapeW ks) (dr d' rest) := by
  have a0 := nx_lo (d := st d 3) (n := most + 1) (by omega)
  have a1 := nx_hi (d := st d 3) (n := most + 1) (by omega)
  obtain ⟨n, hn⟩ : ∃ n : Nat, nx (st d 3) (most + 1) = (n : Int) := ⟨(nx (st d 3) (most + 1)).toNat, by omega⟩
  obtain ⟨d5, vs, e5, l5, q5⟩ := loopC_dr (sl := [.v (.ref 2), .v (.d (.int most)), .v (.d (.int (nx d 3))), .no]) (i := 3) (e := B_law_tape_1) (rest := rest) (Q := fun v => ∃ k : Ky, v = .d k.data ∧ k.ok) rfl (fun w d0 => by
    unfold B_law_tape_1
    by_cases c : nx d0 3 < nx d 3
    · obtain ⟨d1, k, ok, e1⟩ := key_gen (st d0 3) rest
      exact ⟨d1, .d k.data, by simp_arith only [nxt, c, e1], rfl, k, rfl, ok⟩
    · obtain ⟨d1, k, ok, _, e1⟩ := single_gen (st d0 3) rest
      exact ⟨d1, .d k.data, by simp_arith only [nxt, c, e1], rfl, k, rfl, ok⟩) ((List.range n).map fun (i : Nat) => W.d (.int i)) (st (st d 3) (most + 1))
  obtain ⟨ks, rfl, l6, ok⟩ := keys_of q5
  have l7 : ks.length = n := by rw [l6, l5]; simp
  refine ⟨d5, ks, by omega, ok, ?_⟩
  unfold F_law_tape B_law_tape tapeW
  simp_arith only [nxt, show (0 : Int) < most + 1 by omega, show most + 1 < 1000000000 by omega, hn, show -40000 ≤ (n : Int) by omega, show (n : Int) ≤ 40000 by omega, e5]
def nm8 : List Nat := [97, 98, 99, 100, 101, 102, 103, 104]
theorem signs8 : signs (Str.ofString "abcdefgh") = nm8.map fun n => W.d (.str (rowOf [n])) := by
  have hl : (Str.ofString "abcdefgh").cps.toList = nm8 := by decide +kernel
  unfold signs
  rw [hl]
  rfl
theorem rowOf_inj1 {a b : Nat} (h : rowOf [a] = rowOf [b]) : a = b := by
  have e : (rowOf [a]).cps.toList = (rowOf [b]).cps.toList := by rw [h]
  simpa [rowOf] using e
/-- tapes by rising names -/
structure Tapes (T : Tps) (i : Nat) : Prop where
  sub : (T.map (·.1)).Sublist ((nm8.take i).map fun n => rowOf [n])
  ok : ∀ y ∈ T, ∀ k ∈ y.2, Ky.ok k
  ln : ∀ y ∈ T, y.2.length ≤ 30
theorem Tapes.none {T : Tps} {i : Nat} (h : Tapes T i) (hi : i < nm8.length) : T.lookup (rowOf [nm8[i]]) = none := by
  cases e : T.lookup (rowOf [nm8[i]]) with
  | none => rfl
  | some ks =>
    have m1 : rowOf [nm8[i]] ∈ T.map (·.1) := List.mem_map.mpr ⟨_, PySem.mem_of_lookup e, rfl⟩
    obtain ⟨n, hn, en⟩ := List.mem_map.mp (h.sub.subset m1)
    have en := rowOf_inj1 en
    obtain ⟨j, hj, ej⟩ := List.mem_iff_getElem.mp hn
    rw [List.length_take] at hj
    rw [List.getElem_take] at ej
    have nd : nm8.Nodup := by decide
    have := (List.getElem_inj nd).mp (ej.trans en)
    omega
theorem look_tap {T : Tps} {x : Str} : look x (tapW T) = (T.lookup x).map tapeW := by
  induction T with
  | nil => rfl
  | cons y T ih =>
    obtain ⟨y, ks⟩ := y
    show look x ((y, tapeW ks) :: tapW T) = _
    rw [look_cons, List.lookup_cons]
    by_cases e : y = x
    · subst e
      simp
    · have e2 : (x == y) = false := beq_eq_false_iff_ne.mpr fun z => e z.symm
      rw [if_neg e, e2, ih]
theorem putD_new {T : Tps} {x : Str} {ks : List Ky} (h : T.lookup x = none) : putD x (tapeW ks) (tapW T) = tapW (T ++ [(x, ks)]) := by
  have e : (tapW T).lookup x = none := by rw [look_eq, look_tap, h]; rfl
  unfold putD
  rw [e]
  show tapW T ++ [(x, tapeW ks)] = _
  unfold tapW
  rw [List.map_append]
  rfl
theorem Tapes.add {T : Tps} {i : Nat} (h : Tapes T i) (hi : i < nm8.length) {ks : List Ky} (ok : ∀ k ∈ ks, Ky.ok k) (ln : ks.length ≤ 30) : Tapes (T ++ [(rowOf [nm8[i]], ks)]) (i + 1) := by
  refine ⟨?_, fun y hy => ?_, fun y hy => ?_⟩
  · rw [List.map_append, List.take_succ, List.getElem?_eq_getElem hi, List.map_append]
    exact h.sub.append (.refl _)
  · rcases List.mem_append.mp hy with hy | hy
    · exact h.ok y hy
    · have := List.mem_singleton.mp hy
      subst this
      exact ok
  · rcases List.mem_append.mp hy with hy | hy
    · exact h.ln y hy
    · have := List.mem_singleton.mp hy
      subst this
      exact ln
theorem Tapes.next {T : Tps} {i : Nat} (h : Tapes T i) : Tapes T (i + 1) := ⟨h.sub.trans ((List.take_sublist_take_left (Nat.le_succ i)).map _), h.ok, h.ln⟩
theorem Tapes.len {T : Tps} {i : Nat} (h : Tapes T i) : T.length ≤ 8 := by
  have := h.sub.length_le
  rw [List.length_map, List.length_map, List.length_take] at this
  have h8 : nm8.length = 8 := rfl
  omega
theorem tapes_gen (d : Dr) (rest : M) : ∃ d' T, Tapes T 8 ∧ F_law_tapes [.ref 2] (dr d rest) = .ok (.ref (dr d rest).length) (dr d' (rest ++ [.dct (tapW T)])) := by
  have g1 : ∀ (d' : Dr) (x : B), (dr d' (rest ++ [x]))[(dr d rest).length]? = some x := fun d' x => by
    rw [dr_len, dr_get]
    simp
  have g2 : ∀ (d' : Dr) (x y : B), (dr d' (rest ++ [x])).set (dr d rest).length y = dr d' (rest ++ [y]) := fun d' x y => by
    rw [← dr_app, ← dr_app]
    have : (dr d rest).length = (dr d' rest).length := by rw [dr_len, dr_len]
    rw [this]
    exact m_set0
  have fr : frees (nm8.map fun n => W.d (.str (rowOf [n]))) = true := by
    have := frees_map (nm8.map fun n => PyData.str (rowOf [n]))
    rwa [List.map_map] at this
  obtain ⟨s', e, d', T, z, hT, rfl⟩ := loopF_inv (g := gN 2) (b := B_law_tapes_1) (nm8.map fun n => W.d (.str (rowOf [n]))) (fun i s => ∃ d' T z, Tapes T i ∧ s = ⟨[.v (.ref 2), .v (.ref (dr d rest).length), z], dr d' (rest ++ [.dct (tapW T)])⟩) (fun i hi s ⟨d', T, z, hT, hs⟩ => by
    subst hs
    have hi' : i < nm8.length := by simpa using hi
    rw [List.getElem_map]
    have a0 := nx_lo (d := d') (n := 3) (by decide)
    obtain ⟨y, hy, A, rfl, A0, A1⟩ := pickL (P := fun x => ∃ A : Int, x = W.d (.int A) ∧ 0 < A ∧ A ≤ 30) [W.d (.int 3), W.d (.int 8), W.d (.int 30)] (n := 3) (by decide) (st d' 3) (by decide) (fun x hx => by
      simp only [List.mem_cons, List.not_mem_nil, or_false] at hx
      rcases hx with rfl | rfl | rfl <;> exact ⟨_, rfl, by decide, by decide⟩)
    have b0 := nx_lo (d := st d' 3) (n := 3) (by decide)
    by_cases c : 0 < nx d' 3
    · obtain ⟨d2, ks, hl, ok, e2⟩ := tape_gen (st (st d' 3) 3) (rest ++ [.dct (tapW T)]) A (by omega) A1
      refine ⟨_, ⟨[.v (.ref 2), .v (.ref (dr d rest).length), .v (.d (.str (rowOf [nm8[i]])))], dr d2 (rest ++ [.dct (tapW (T ++ [(rowOf [nm8[i]], ks)]))])⟩, y_gN rfl, ?_, d2, _, _, hT.add hi' ok (by omega), rfl⟩
      have kl : (tapW T).length < 1000 := by
        unfold tapW
        rw [List.length_map]
        have := hT.len
        omega
      have pn := putD_new (ks := ks) (hT.none hi')
      have ft : free (tapeW ks) = true := z_d
      unfold B_law_tapes_1
      simp_arith only [nxt, c, b0, hy, e2, g1, g2, kl, ft, pn, y_dput]
      done
    · refine ⟨_, ⟨[.v (.ref 2), .v (.ref (dr d rest).length), .v (.d (.str (rowOf [nm8[i]])))], dr (st d' 3) (rest ++ [.dct (tapW T)])⟩, y_gN rfl, ?_, st d' 3, T, _, hT.next, rfl⟩
      unfold B_law_tapes_1
      simp_arith only [nxt, c]
      done) ⟨[.v (.ref 2), .v (.ref (dr d rest).length), .no], dr d (rest ++ [.dct (tapW [])])⟩ ⟨d, [], .no, ⟨.slnil, fun _ h => (by cases h), fun _ h => (by cases h)⟩, rfl⟩
  refine ⟨d', T, hT, ?_⟩
  have l8 : (Str.ofString "abcdefgh").length ≤ 100000 := by decide +kernel
  have e1 : dr d rest ++ [B.dct []] = dr d (rest ++ [.dct (tapW [])]) := dr_app
  unfold F_law_tapes B_law_tapes
  simp_arith only [signs8, fr, l8, e1, e]
local macro_rules | `(tactic| simp_arith only [$a,*]) => `(tactic| simp only [y_bin, y_k1, y_k2, y_un, y_kU, y_chain, y_c1, y_c2, y_c3t, y_c3f, y_and, y_andt, y_andf, y_or, y_ort, y_orf, y_cB, y_kB, y_cNot, y_kNot, y_cAnd, y_cAt, y_cAf, y_cOr, y_cOt, y_cOf, y_if, y_ift, y_iff, y_nil, y_cons, y_kc1, y_kc2, y_tup, y_kTup, y_lst, y_kLst, y_F, y_kF, y_Bx, y_kBx, y_B, y_kEB, y_call, y_kCall, y_kRet, y_V, y_C, y_seq, y_kSn, y_kSr, y_kSb, y_kSc, y_kSe, y_sIf, y_kSIt, y_kSIf, y_sE, y_kSE, y_ret, y_kSR, y_set, y_kSet, y_own, y_kOwn, y_asg, y_kAsg, y_kNx, y_for, y_kFor, y_loop0, y_kL1, y_kL2n, y_kL2c, y_kL2b, y_kL2r, y_kL2e, y_par, y_kP1, y_kP2, y_parL, y_kQ1, y_kQ2, y_fn, y_finN, y_finD, y_finRef, y_finT, y_finE, y_it, y_kItL, y_kItT, y_kItlw, y_kItscr, y_kItS, y_rng1, y_kR1, y_rng2, y_kR2, y_xN, y_xS, y_kX, y_sl, y_l1, y_l2, y_l3, y_lm, y_kM1, y_kM3, y_kM2, y_gIx, y_kG1, y_kG2, y_kG3, y_kG4, y_gN, y_isi, y_kIs, y_join, y_kJ1, y_kJ2, d_app, d_allD, d_frees, d_take, d_drop, d_cut, d_get, d_set, d_rep, allD_map, frees_map, sNx, sBk, sCt, cT, y_fz, y_kFz, readT, readQ, seqR, wrL, oIx, oIxT, oIxS, bMax, bMin, bLenL, bLenT, bLenS, bInt, bList, bListS, bTup, oNil, oNilT, oIsN, oIsB, isNo, oCat, oRep, oCatT, oRepT, slL, slT, slS, mAppend, mPop, mPopAt, mInsert, mExtend, wr, eNot, rvT, oNeg, finEs, finE, mkL, mkT, z_d, z_ref, z_scr, z_tw, z_lw, z_nil, z_cons, z_a0, z_a1, z_ar, z_at, z_al, z_ao, x_add, x_sub, x_mul, x_mod, x_div, x_pow, x_lt, x_le, x_gt, x_ge, x_addS, x_ltS, x_leS, x_eqI, x_eqS, x_eqB, atI_pos, List.map_cons, List.map_nil, List.length_cons, List.length_nil, List.length_map, List.cons_append, List.nil_append, List.append_nil, List.getElem?_cons_zero, List.getElem?_cons_succ, List.getElem?_nil, List.set_cons_zero, List.set_cons_succ, List.replicate_succ, List.replicate_zero, List.isEmpty_cons, List.isEmpty_nil, Option.map_some, Option.map_none, Option.isSome_some, Nat.reduceSub, Nat.reduceAdd, Nat.reduceEqDiff, Nat.reduceLeDiff, Int.reduceToNat, Bool.and_true, Bool.true_and, Bool.and_self, and_self, and_true, true_and, if_true, if_false, ite_true, ite_false, reduceIte, Bool.not_true, Bool.not_false, Bool.false_eq_true, decide_true, decide_false, decide_eq_true_eq, Int.reduceLE, Int.reduceLT, Int.reduceGE, Int.reduceGT, Int.reduceAdd, Int.reduceSub, Int.reduceMul, Int.reduceNeg, Int.reduceEq, Int.reduceNe, Int.reducePow, Int.reduceMod, Int.reduceDiv, Nat.reduceLT, Nat.reduceMul, Nat.reducePow, Nat.reduceGT, Nat.zero_le, Int.zero_le_ofNat, Int.natCast_zero, Int.natCast_one, Int.cast_ofNat_Int, y_sSl, y_kS1, y_kS2, y_kS3, y_kS4, y_kS5, y_kS6, w_eq, String.reduceEq, Int.toNat_natCast, Int.natCast_nonneg, Int.le_refl, Nat.le_refl, y_comp, y_kCp, y_kCp2n, y_kCp2v, List.set_set, kx_non_int, kx_non_bool, kx_non_str, kx_non_tuple, kx_non_list, kx_bl_int, kx_bl_bool, kx_bl_str, kx_bl_tuple, kx_bl_list, kx_int_int, kx_int_bool, kx_int_str, kx_int_tuple, kx_int_list, kx_str_int, kx_str_bool, kx_str_str, kx_str_tuple, kx_str_list, kx_lst_int, kx_lst_bool, kx_lst_str, kx_lst_tuple, kx_lst_list, kx_tup_int, kx_tup_bool, kx_tup_str, kx_tup_tuple, kx_tup_list, okk_int, okk_bool, okk_str, okk_tuple, okk_list, kx_dct_int, kx_dct_bool, kx_dct_str, kx_dct_tuple, kx_dct_list, List.isEmpty_map, z_S0, z_S1, z_Sm, x_in, y_kIn, in_strsL, y_gT1, y_gT2, y_gT3, y_gW2, look_nil, look_cons, put_nil, put_cons, y_get, y_kGet, y_kGet2, y_kGet3, y_met, y_kMet, y_kMet2, y_kMet3, y_kMet4, y_mak, y_kMak, y_kMk2, y_fld, y_kFl1, y_kFl2, y_kFl3, List.mem_cons, List.not_mem_nil, or_false, false_or, or_self, or_true, true_or, decide_true, decide_false, y_dget, y_kDG1, y_kDG2, y_kDG3, y_kDG4, y_kDG5, getD_some, getD_none, y_dput, y_kDP1, y_kDP2, y_kDP3, y_kDP4, y_split, y_kSp1, y_kSp2, y_dict0, y_dix, y_kI1, y_kI3, y_kI4, y_kI5, y_dnil, y_dcons, y_kD1, y_kD2, y_dict, y_kD3, y_kD4, y_orB, y_kBoN, y_kBoY, y_orO, y_kOoN, y_kOoY, x_gtT, y_isi2, y_kIs2, Bool.or_true, Bool.or_false, Bool.true_or, Bool.false_or, Bool.or_self, rl_list, rl_tup, rl_str, rl_int, rl_non, rl_lw, rl_tw, rl_ref, rl_own, rl_kRl, rl_kRo, y_upd, y_kU0, y_kU1', y_kU2, y_kU3, y_gW3, y_compL, y_lv, y_kLv, y_kLv2, y_kCL0, y_kCL1, y_kCL2n, y_kCL2v, y_kCL3, $a,*])
local macro_rules | `(tactic| simp_arith only [$a,*] at $h:ident) => `(tactic| simp only [y_bin, y_k1, y_k2, y_un, y_kU, y_chain, y_c1, y_c2, y_c3t, y_c3f, y_and, y_andt, y_andf, y_or, y_ort, y_orf, y_cB, y_kB, y_cNot, y_kNot, y_cAnd, y_cAt, y_cAf, y_cOr, y_cOt, y_cOf, y_if, y_ift, y_iff, y_nil, y_cons, y_kc1, y_kc2, y_tup, y_kTup, y_lst, y_kLst, y_F, y_kF, y_Bx, y_kBx, y_B, y_kEB, y_call, y_kCall, y_kRet, y_V, y_C, y_seq, y_kSn, y_kSr, y_kSb, y_kSc, y_kSe, y_sIf, y_kSIt, y_kSIf, y_sE, y_kSE, y_ret, y_kSR, y_set, y_kSet, y_own, y_kOwn, y_asg, y_kAsg, y_kNx, y_for, y_kFor, y_loop0, y_kL1, y_kL2n, y_kL2c, y_kL2b, y_kL2r, y_kL2e, y_par, y_kP1, y_kP2, y_parL, y_kQ1, y_kQ2, y_fn, y_finN, y_finD, y_finRef, y_finT, y_finE, y_it, y_kItL, y_kItT, y_kItlw, y_kItscr, y_kItS, y_rng1, y_kR1, y_rng2, y_kR2, y_xN, y_xS, y_kX, y_sl, y_l1, y_l2, y_l3, y_lm, y_kM1, y_kM3, y_kM2, y_gIx, y_kG1, y_kG2, y_kG3, y_kG4, y_gN, y_isi, y_kIs, y_join, y_kJ1, y_kJ2, d_app, d_allD, d_frees, d_take, d_drop, d_cut, d_get, d_set, d_rep, allD_map, frees_map, sNx, sBk, sCt, cT, y_fz, y_kFz, readT, readQ, seqR, wrL, oIx, oIxT, oIxS, bMax, bMin, bLenL, bLenT, bLenS, bInt, bList, bListS, bTup, oNil, oNilT, oIsN, oIsB, isNo, oCat, oRep, oCatT, oRepT, slL, slT, slS, mAppend, mPop, mPopAt, mInsert, mExtend, wr, eNot, rvT, oNeg, finEs, finE, mkL, mkT, z_d, z_ref, z_scr, z_tw, z_lw, z_nil, z_cons, z_a0, z_a1, z_ar, z_at, z_al, z_ao, x_add, x_sub, x_mul, x_mod, x_div, x_pow, x_lt, x_le, x_gt, x_ge, x_addS, x_ltS, x_leS, x_eqI, x_eqS, x_eqB, atI_pos, List.map_cons, List.map_nil, List.length_cons, List.length_nil, List.length_map, List.cons_append, List.nil_append, List.append_nil, List.getElem?_cons_zero, List.getElem?_cons_succ, List.getElem?_nil, List.set_cons_zero, List.set_cons_succ, List.replicate_succ, List.replicate_zero, List.isEmpty_cons, List.isEmpty_nil, Option.map_some, Option.map_none, Option.isSome_some, Nat.reduceSub, Nat.reduceAdd, Nat.reduceEqDiff, Nat.reduceLeDiff, Int.reduceToNat, Bool.and_true, Bool.true_and, Bool.and_self, and_self, and_true, true_and, if_true, if_false, ite_true, ite_false, reduceIte, Bool.not_true, Bool.not_false, Bool.false_eq_true, decide_true, decide_false, decide_eq_true_eq, Int.reduceLE, Int.reduceLT, Int.reduceGE, Int.reduceGT, Int.reduceAdd, Int.reduceSub, Int.reduceMul, Int.reduceNeg, Int.reduceEq, Int.reduceNe, Int.reducePow, Int.reduceMod, Int.reduceDiv, Nat.reduceLT, Nat.reduceMul, Nat.reducePow, Nat.reduceGT, Nat.zero_le, Int.zero_le_ofNat, Int.natCast_zero, Int.natCast_one, Int.cast_ofNat_Int, y_sSl, y_kS1, y_kS2, y_kS3, y_kS4, y_kS5, y_kS6, w_eq, String.reduceEq, Int.toNat_natCast, Int.natCast_nonneg, Int.le_refl, Nat.le_refl, y_comp, y_kCp, y_kCp2n, y_kCp2v, List.set_set, kx_non_int, kx_non_bool, kx_non_str, kx_non_tuple, kx_non_list, kx_bl_int, kx_bl_bool, kx_bl_str, kx_bl_tuple, kx_bl_list, kx_int_int, kx_int_bool, kx_int_str, kx_int_tuple, kx_int_list, kx_str_int, kx_str_bool, kx_str_str, kx_str_tuple, kx_str_list, kx_lst_int, kx_lst_bool, kx_lst_str, kx_lst_tuple, kx_lst_list, kx_tup_int, kx_tup_bool, kx_tup_str, kx_tup_tuple, kx_tup_list, okk_int, okk_bool, okk_str, okk_tuple, okk_list, kx_dct_int, kx_dct_bool, kx_dct_str, kx_dct_tuple, kx_dct_list, List.isEmpty_map, z_S0, z_S1, z_Sm, x_in, y_kIn, in_strsL, y_gT1, y_gT2, y_gT3, y_gW2, look_nil, look_cons, put_nil, put_cons, y_get, y_kGet, y_kGet2, y_kGet3, y_met, y_kMet, y_kMet2, y_kMet3, y_kMet4, y_mak, y_kMak, y_kMk2, y_fld, y_kFl1, y_kFl2, y_kFl3, List.mem_cons, List.not_mem_nil, or_false, false_or, or_self, or_true, true_or, decide_true, decide_false, y_dget, y_kDG1, y_kDG2, y_kDG3, y_kDG4, y_kDG5, getD_some, getD_none, y_dput, y_kDP1, y_kDP2, y_kDP3, y_kDP4, y_split, y_kSp1, y_kSp2, y_dict0, y_dix, y_kI1, y_kI3, y_kI4, y_kI5, y_dnil, y_dcons, y_kD1, y_kD2, y_dict, y_kD3, y_kD4, y_orB, y_kBoN, y_kBoY, y_orO, y_kOoN, y_kOoY, x_gtT, y_isi2, y_kIs2, Bool.or_true, Bool.or_false, Bool.true_or, Bool.false_or, Bool.or_self, rl_list, rl_tup, rl_str, rl_int, rl_non, rl_lw, rl_tw, rl_ref, rl_own, rl_kRl, rl_kRo, y_upd, y_kU0, y_kU1', y_kU2, y_kU3, y_gW3, y_compL, y_lv, y_kLv, y_kLv2, y_kCL0, y_kCL1, y_kCL2n, y_kCL2v, y_kCL3, $a,*] at $h:ident)
theorem Sh.lt {m : M} {s r : Nat} {σ : Sht} (h : Sh m s r σ) : s < m.length ∧ r < m.length := ⟨getElem?_lt h.ins, getElem?_lt h.lst⟩
theorem Ed.of {m m' : M} {e s r t pa fu td : Nat} {σ : Sht} {T : List (Str × W)} {P : List W} (h : Ed m e s r t pa fu td σ T P) (he : m'[e]? = m[e]?) (hs : m'[s]? = m[s]?) (hr : m'[r]? = m[r]?) (ht : m'[t]? = m[t]?) (hp : m'[pa]? = m[pa]?) : Ed m' e s r t pa fu td σ T P :=
  ⟨he.trans h.ins, ⟨hs.trans h.sh.ins, hr.trans h.sh.lst, h.sh.ne⟩, ht.trans h.tap, hp.trans h.pst, h.es, h.er, h.et, h.ep, h.ps, h.pr, h.pt, h.st, h.rt⟩
theorem tapeOf_len {T : Tps} (h : ∀ y ∈ T, y.2.length ≤ 30) (n : Nat) : (tapeOf T n).length ≤ 100000 := by
  unfold tapeOf
  cases e : T.lookup (rowOf [n]) with
  | none => exact Nat.zero_le _
  | some ks => exact Nat.le_trans (h (rowOf [n], ks) (PySem.mem_of_lookup e)) (by decide)
theorem dr_hi {d d' : Dr} {rest : M} {k : Nat} (h : 3 ≤ k) : (dr d' rest)[k]? = (dr d rest)[k]? := by
  obtain ⟨j, rfl⟩ := Nat.exists_eq_add_of_le' h
  rw [dr_get, dr_get]
theorem dr_back {d : Dr} {rest m : M} {e : Nat} (h3 : 3 ≤ e) (h : ∀ k < e, m[k]? = (dr d rest)[k]?) : ∃ rest', m = dr d rest' := dr_of (h 0 (by omega)) (h 1 (by omega)) (h 2 (by omega))
theorem keyP_single {T : Tps} {l d : Nat} {k : Ky} {s : PSt} (h : k.single) (hn : s.n < 400) : keyP T (l + 1) d k s = .ok (s.sh.do1 k).isSome ⟨(s.sh.do1 k).getD s.sh, s.n + 1, if (s.sh.do1 k).isSome = true then s.ks ++ [k] else s.ks⟩ := by
  unfold keyP tickP
  rw [if_pos hn]
  have dn : ∀ x : PSt, x.sh = s.sh → doneP T (keyP T l (d + 1)) d k x = (match s.sh.do1 k with
      | some τ => .ok true ⟨τ, x.n, x.ks ++ [k]⟩
      | none => .ok false x) := fun x hx => by
    rw [← hx]
    cases k with
    | put c => rfl
    | find w => rfl
    | play n k => exact h.elim
    | till n => exact h.elim
    | bare b => rfl
  rw [dn ⟨s.sh, s.n + 1, s.ks⟩ rfl]
  cases s.sh.do1 k <;> rfl
theorem txt_inj {R R' : List (List Nat)} (h1 : R ≠ []) (h2 : R' ≠ []) (g1 : sgR R) (g2 : sgR R') (a1 : R.length ≤ 12) (a2 : R'.length ≤ 12) (b1 : ∀ cs ∈ R, cs.length ≤ 60) (b2 : ∀ cs ∈ R', cs.length ≤ 60) (h : txt R = txt R') : R = R' := by
  have s0 : FE.S := ⟨[], []⟩
  have e1 := sp_txt (s := s0) h1 g1 a1 b1
  have e2 := sp_txt (s := s0) h2 g2 a2 b2
  rw [h, e2] at e1
  have e3 : (stl (R'.map rowOf)) = stl (R.map rowOf) := by
    injection e1
  have inj : ∀ {a b : List Str}, stl a = stl b → a = b := fun {a b} h => by
    have := congrArg (List.filterMap fun w : W => match w with | .d (.str z) => some z | _ => none) h
    have q : ∀ l : List Str, (stl l).filterMap (fun w : W => match w with | .d (.str z) => some z | _ => none) = l := fun l => by
      induction l with
      | nil => rfl
      | cons z l ih => exact congrArg (z :: ·) ih
    rw [q, q] at this
    exact this
  have e4 := inj e3
  have ri : ∀ {a b : List Nat}, rowOf a = rowOf b → a = b := fun {a b} h => by
    have e : (rowOf a).cps.toList = (rowOf b).cps.toList := by rw [h]
    simpa [rowOf] using e
  clear e1 e2 e3 h h1 h2 g1 g2 a1 a2 b1 b2
  induction R' generalizing R with
  | nil =>
    cases R with
    | nil => rfl
    | cons a R => cases e4
  | cons b R' ih =>
    cases R with
    | nil => cases e4
    | cons a R =>
      injection e4 with f1 f2
      rw [ri f1, ih f2]
theorem Sht.ok.ne {σ : Sht} (o : σ.ok) : σ.rows ≠ [] := fun h => by
  have := o.row
  rw [h] at this
  exact absurd this (Nat.not_lt_zero _)
theorem txt_iff {σ τ : Sht} (o : σ.ok) (g : σ.sg) (o2 : τ.ok) (g2 : τ.sg) : txt τ.rows = txt σ.rows ↔ τ.rows = σ.rows := ⟨fun h => txt_inj o2.ne o.ne g2.rows g.rows o2.many o.many o2.len o.len h, fun h => by rw [h]⟩
theorem drl {d d' : Dr} {rest : M} : (dr d rest).length = (dr d' rest).length := by rw [dr_len, dr_len]
theorem dr_set {d : Dr} {rest : M} {j : Nat} {b : B} (h : 3 ≤ j) : ∃ rest', (dr d rest).set j b = dr d rest' :=
  dr_of (List.getElem?_set_ne (by omega)) (List.getElem?_set_ne (by omega)) (List.getElem?_set_ne (by omega))
def okZ (z : Sl) : Prop := z = .no ∨ ∃ w, z = .v w
/-! tapes told anew; an editor of which nothing is taken back -/
def putT (x : Str) (ks : List Ky) (T : Tps) : Tps := if (T.lookup x).isSome = true then T.map (fun y => if y.1 = x then (y.1, ks) else y) else T ++ [(x, ks)]
theorem putD_tap {x : Str} {ks : List Ky} {T : Tps} : putD x (tapeW ks) (tapW T) = tapW (putT x ks T) := by
  unfold putD putT
  rw [look_eq, look_tap]
  cases T.lookup x with
  | none =>
    show tapW T ++ [(x, tapeW ks)] = _
    simp [tapW]
  | some z =>
    simp only [Option.map_some, Option.isSome_some, if_true]
    unfold tapW
    rw [List.map_map, List.map_map]
    refine List.map_congr_left fun y _ => ?_
    simp only [Function.comp_apply]
    split <;> rfl
def mergeT (T U : Tps) : Tps := U.foldl (fun acc y => putT y.1 y.2 acc) T
theorem mrgD_tap : ∀ {U T : Tps}, mrgD (tapW T) (tapW U) = tapW (mergeT T U)
  | [], T => rfl
  | y :: U, T => by
    show mrgD (putD y.1 (tapeW y.2) (tapW T)) (tapW U) = _
    rw [putD_tap, mrgD_tap]
    rfl
theorem putT_mem {x : Str} {ks : List Ky} {T : Tps} {y : Str × List Ky} (h : y ∈ putT x ks T) : y ∈ T ∨ y.2 = ks := by
  unfold putT at h
  split at h
  · obtain ⟨z, hz, rfl⟩ := List.mem_map.mp h
    split
    · exact .inr rfl
    · exact .inl hz
  · rcases List.mem_append.mp h with h | h
    · exact .inl h
    · rw [List.mem_singleton.mp h]
      exact .inr rfl
theorem putT_len {x : Str} {ks : List Ky} {T : Tps} : (putT x ks T).length ≤ T.length + 1 := by
  unfold putT
  split
  · rw [List.length_map]
    omega
  · rw [List.length_append]
    simp
theorem mergeT_mem : ∀ {U T : Tps} {y : Str × List Ky}, y ∈ mergeT T U → y ∈ T ∨ ∃ z ∈ U, y.2 = z.2
  | [], T, y, h => .inl h
  | u :: U, T, y, h => by
    rcases mergeT_mem (U := U) (T := putT u.1 u.2 T) h with h | ⟨z, h1, h2⟩
    · rcases putT_mem h with h | h
      · exact .inl h
      · exact .inr ⟨u, List.mem_cons_self, h⟩
    · exact .inr ⟨z, List.mem_cons_of_mem _ h1, h2⟩
theorem mergeT_len : ∀ {U T : Tps}, (mergeT T U).length ≤ T.length + U.length
  | [], T => Nat.le_refl _
  | u :: U, T => by
    have h1 := mergeT_len (U := U) (T := putT u.1 u.2 T)
    have h2 := putT_len (x := u.1) (ks := u.2) (T := T)
    rw [List.length_cons]
    show (mergeT (putT u.1 u.2 T) U).length ≤ _
    omega
/-- an editor; Z: boxes that others may change -/
structure EdL (m : M) (e t pa td : Nat) (σ : Sht) (T : Tps) (n : Nat) (Z : List Nat) : Prop where
  ed : ∃ s r fu P, Ed m e s r t pa fu td σ (tapW T) P ∧ P.length ≤ n ∧ (s ∉ Z ∧ r ∉ Z) ∧ 3 ≤ s ∧ 3 ≤ r
  lo : 3 ≤ e ∧ 3 ≤ t ∧ 3 ≤ pa
  nz : e ∉ Z ∧ t ∉ Z ∧ pa ∉ Z
  zl : ∀ k ∈ Z, k < m.length
  ok : σ.ok
  sg : σ.sg
  tok : ∀ y ∈ T, ∀ k ∈ y.2, Ky.ok k
  tln : ∀ y ∈ T, y.2.length ≤ 30
theorem EdL.of {m m' : M} {e t pa td n n' : Nat} {σ : Sht} {T : Tps} {Z Z' : List Nat} (h : EdL m e t pa td σ T n Z) (hm : ∀ k, 3 ≤ k → k < m.length → k ∉ Z → m'[k]? = m[k]?) (hl : m.length ≤ m'.length) (hZ : ∀ k ∈ Z', (k ∈ Z ∨ m.length ≤ k) ∧ k < m'.length) (hn : n ≤ n') : EdL m' e t pa td σ T n' Z' := by
  obtain ⟨s, r, fu, P, hE, hP, ⟨z1, z2⟩, l1, l2⟩ := h.ed
  have nz := h.nz
  have lo := h.lo
  have le := getElem?_lt hE.ins
  have lt := getElem?_lt hE.tap
  have lp := getElem?_lt hE.pst
  have ls := hE.sh.lt
  have av : ∀ {k : Nat}, k < m.length → k ∉ Z → k ∉ Z' := fun {k} h1 h2 h3 => by
    rcases (hZ k h3).1 with q | q
    · exact h2 q
    · omega
  exact ⟨⟨s, r, fu, P, hE.of (hm _ lo.1 le nz.1) (hm _ l1 ls.1 z1) (hm _ l2 ls.2 z2) (hm _ lo.2.1 lt nz.2.1) (hm _ lo.2.2 lp nz.2.2), Nat.le_trans hP hn, ⟨av ls.1 z1, av ls.2 z2⟩, l1, l2⟩, lo, ⟨av le nz.1, av lt nz.2.1, av lp nz.2.2⟩, fun k hk => (hZ k hk).2, h.ok, h.sg, h.tok, h.tln⟩
theorem EdL.dr {d d' : Dr} {rest : M} {e t pa td n : Nat} {σ : Sht} {T : Tps} {Z : List Nat} (h : EdL (dr d rest) e t pa td σ T n Z) : EdL (FE.dr d' rest) e t pa td σ T n Z :=
  h.of (fun k h1 _ _ => dr_hi h1) (by rw [dr_len, dr_len]; exact Nat.le_refl _) (fun k hk => ⟨.inl hk, by have := h.zl k hk; rw [dr_len] at this ⊢; exact this⟩) (Nat.le_refl _)
theorem EdL.ins {m : M} {e t pa td n : Nat} {σ : Sht} {T : Tps} {Z : List Nat} (h : EdL m e t pa td σ T n Z) : ∃ s fu, m[e]? = some (.ins (Str.ofString "Editor") [(Str.ofString "sheet", .ref s), (Str.ofString "tapes", .ref t), (Str.ofString "past", .ref pa), (Str.ofString "future", .ref fu), (Str.ofString "taping", .d .none), (Str.ofString "taped", .ref td)]) := by
  obtain ⟨s, r, fu, P, hE, hP, ⟨z1, z2⟩, l1, l2⟩ := h.ed
  exact ⟨s, fu, hE.ins⟩
theorem EdL.lt {m : M} {e t pa td n : Nat} {σ : Sht} {T : Tps} {Z : List Nat} (h : EdL m e t pa td σ T n Z) : e < m.length ∧ t < m.length ∧ pa < m.length := by
  obtain ⟨s, r, fu, P, hE, hP, ⟨z1, z2⟩, l1, l2⟩ := h.ed
  exact ⟨getElem?_lt hE.ins, getElem?_lt hE.tap, getElem?_lt hE.pst⟩
theorem EdL.text {m : M} {e t pa td n : Nat} {σ : Sht} {T : Tps} {Z : List Nat} (h : EdL m e t pa td σ T n Z) : F_Editor_text [.ref e] m = .ok (.d (.str (txt σ.rows))) m := by
  obtain ⟨s, r, fu, P, hE, hP, ⟨z1, z2⟩, l1, l2⟩ := h.ed
  exact text_ok hE h.ok
theorem EdL.place {m : M} {e t pa td n : Nat} {σ : Sht} {T : Tps} {Z : List Nat} (h : EdL m e t pa td σ T n Z) : F_Editor_place [.ref e] m = .ok (.d (.tuple [.int σ.row, .int σ.col])) m := by
  obtain ⟨s, r, fu, P, hE, hP, ⟨z1, z2⟩, l1, l2⟩ := h.ed
  exact place_ok hE
theorem EdL.clip {m : M} {e t pa td n : Nat} {σ : Sht} {T : Tps} {Z : List Nat} (h : EdL m e t pa td σ T n Z) : F_Editor_clip [.ref e] m = .ok (.d (.str (rowOf σ.held))) m := by
  obtain ⟨s, r, fu, P, hE, hP, ⟨z1, z2⟩, l1, l2⟩ := h.ed
  exact clip_ok hE
/-- a press -/
theorem press_l {m : M} {e t pa td n : Nat} {σ : Sht} {T : Tps} {Z : List Nat} (h : EdL m e t pa td σ T n Z) (hP : n < 1000) (k : Ky) (hk : k.ok) : match keyP T 22 0 k ⟨σ, 0, []⟩ with
    | .ok b S => ∃ m', F_Editor_press [.ref e, .d k.data] m = .ok (.d (.bool b)) m' ∧ EdL m' e t pa td S.sh T (n + 1) Z ∧ (∀ k < m.length, k ≠ e → k ≠ pa → m'[k]? = m[k]?) ∧ m.length ≤ m'.length
    | .long => ∃ m', F_Editor_press [.ref e, .d k.data] m = .er tooLong m' ∧ EdL m' e t pa td σ T n Z ∧ (∀ k < m.length, m'[k]? = m[k]?) ∧ m.length ≤ m'.length
    | .no => False := by
  obtain ⟨s, r, fu, P, hE, hPl, ⟨z1, z2⟩, l1, l2⟩ := h.ed
  have hn : F_need_key [.d k.data] m = .ok (.d .none) m := need_key_ok (Ky.is_key hk) (Ky.short hk)
  have go : ∀ (m1 : M) (p q s' r' : Nat), Run m1 p q s' r' t σ 0 [] → m1[t]? = some (.dct (tapW T)) → t ≠ p → t ≠ q → t ≠ s' → t ≠ r' → Mt p q s' r' t m1 (F_Player_keyN 22 [.ref p, .d k.data, .d (.int 0)] m1) 0 (keyP T 22 0 k ⟨σ, 0, []⟩) := fun m1 p q s' r' rn ht n1 n2 n3 n4 =>
    key_at ⟨ht, n1, n2, n3, n4, h.tok⟩ (tapeOf_len h.tln) 22 0 (by decide) (by decide) k hk m1 ⟨σ, 0, []⟩ ⟨rn, h.ok, h.sg, Nat.le_refl _, Nat.zero_le _, .refl⟩
  have le := getElem?_lt hE.ins
  have lt := getElem?_lt hE.tap
  have lp := getElem?_lt hE.pst
  have run := press_run hE
  cases e1 : keyP T 22 0 k ⟨σ, 0, []⟩ with
  | no =>
    rw [e1] at go
    exact go _ _ _ _ _ run (app_at (app_at (app_at hE.tap))) (by omega) (by omega) (by omega) (by omega)
  | long =>
    rw [e1] at go
    obtain ⟨m', e2, l2', f2⟩ := press_long hE hn fun m1 p q s' r' a b c d x y => go m1 p q s' r' a b c d x y
    exact ⟨m', e2, h.of (fun k _ h2 _ => f2 k h2) l2' (fun k hk => ⟨.inl hk, Nat.lt_of_lt_of_le (h.zl k hk) l2'⟩) (Nat.le_refl _), f2, l2'⟩
  | ok b S =>
    rw [e1] at go
    have fin : S.sh.ok ∧ S.sh.sg := by
      obtain ⟨_, m2, _, a2⟩ := go _ _ _ _ _ run (app_at (app_at (app_at hE.tap))) (by omega) (by omega) (by omega) (by omega)
      exact ⟨a2.ok, a2.sg⟩
    obtain ⟨m', e2, l2', q⟩ := press_big (b := b) (τ := S.sh) hE h.sg.rows fin.2.rows (by omega) hn fun m1 p q s' r' a b c d x y => by
      obtain ⟨_, m2, e3, a3⟩ := go m1 p q s' r' a b c d x y
      exact ⟨m2, _, _, e3, a3.run, a3.fra⟩
    have lo := h.lo
    have nz := h.nz
    have nw : ∀ j, m.length ≤ j → j ∉ Z := fun j hj hz => by
      have := h.zl j hz
      omega
    by_cases c : S.sh.rows = σ.rows
    · simp only [if_pos c] at q
      obtain ⟨E1, f1⟩ := q
      exact ⟨m', e2, ⟨⟨_, _, _, _, E1, by omega, ⟨nw _ (by omega), nw _ (by omega)⟩, by omega, by omega⟩, lo, nz, fun k hk => by have := h.zl k hk; omega, fin.1, fin.2, h.tok, h.tln⟩, fun k h1 h2 h3 => f1 k h1 h2, by omega⟩
    · simp only [if_neg c] at q
      obtain ⟨E1, sa, sb, fn, l3, f1⟩ := q
      exact ⟨m', e2, ⟨⟨_, _, _, _, E1, by rw [List.length_append]; simp only [List.length_cons, List.length_nil]; omega, ⟨nw _ (by omega), nw _ (by omega)⟩, by omega, by omega⟩, lo, nz, fun k hk => by have := h.zl k hk; omega, fin.1, fin.2, h.tok, h.tln⟩, f1, by omega⟩
/-- a tape is told, anew or not -/
theorem tape_l {m : M} {e t pa td n : Nat} {σ : Sht} {T : Tps} {Z : List Nat} (h : EdL m e t pa td σ T n Z) {c : Nat} (hn : nameOk c) {ks : List Ky} (ok : ∀ k ∈ ks, Ky.ok k) (ln : ks.length ≤ 30) (hz : T.length < 1000) :
    ∃ m', F_Editor_tape [.ref e, .d (.str (rowOf [c])), tapeW ks] m = .ok (.d .none) m' ∧ EdL m' e t pa td σ (putT (rowOf [c]) ks T) n Z ∧ (∀ k, k ≠ t → m'[k]? = m[k]?) ∧ m'.length = m.length := by
  obtain ⟨s, r, fu, P, hE, hPl, ⟨z1, z2⟩, l1, l2⟩ := h.ed
  have hi := hE.ins
  have ht := hE.tap
  have lt := getElem?_lt ht
  unfold edI at hi
  have na := need_name_ok (m := m) (d := .str (rowOf [c])) (name_isName hn) (short_row (by simp))
  have nk : F_need_keys [tapeW ks, .d (.int 30)] m = .ok (.d .none) m := by
    refine need_keys_ok _ _ _ (by simp; omega) (by simp; omega) (fun d hd => ?_)
    obtain ⟨k, hk', rfl⟩ := List.mem_map.mp hd
    exact ⟨Ky.is_key (ok k hk'), Ky.short (ok k hk')⟩
  have kl : (tapW T).length < 1000 := by
    unfold tapW
    rw [List.length_map]
    exact hz
  have pn := putD_tap (x := rowOf [c]) (ks := ks) (T := T)
  have ft : free (tapeW ks) = true := z_d
  have nt : ∀ {k : Nat} {b : B}, k ≠ t → (m.set t b)[k]? = m[k]? := fun h => List.getElem?_set_ne (Ne.symm h)
  refine ⟨m.set t (.dct (tapW (putT (rowOf [c]) ks T))), ?_, ⟨⟨s, r, fu, P, ⟨?_, ⟨?_, ?_, hE.sh.ne⟩, ?_, ?_, hE.es, hE.er, hE.et, hE.ep, hE.ps, hE.pr, hE.pt, hE.st, hE.rt⟩, hPl, ⟨z1, z2⟩, l1, l2⟩, h.lo, h.nz, fun k hk => by rw [List.length_set]; exact h.zl k hk, h.ok, h.sg, fun y hy => ?_, fun y hy => ?_⟩, fun k hk => nt hk, List.length_set⟩
  · unfold F_Editor_tape B_Editor_tape
    simp_arith only [na, nk, hi, ht, kl, ft, pn, y_dput]
  · rw [nt hE.et, hE.ins]
  · rw [nt hE.st, hE.sh.ins]
  · rw [nt hE.rt, hE.sh.lst]
  · exact List.getElem?_set_self lt
  · rw [nt hE.pt, hE.pst]
  · rcases putT_mem hy with hy | hy
    · exact h.tok y hy
    · rw [hy]
      exact ok
  · rcases putT_mem hy with hy | hy
    · exact h.tln y hy
    · rw [hy]
      exact ln
/-- a new editor -/
theorem init_l {R : List (List Nat)} {m : M} {Z : List Nat} (hR : TextOk R) (h3 : 3 ≤ m.length) (hZ : ∀ k ∈ Z, k < m.length) : EdL (m ++ [edI (m.length + 1) (m.length + 3) (m.length + 4) (m.length + 5) (m.length + 6), shI (m.length + 2) 0 0 (rowOf []), .lst (rowsW R), .dct [], .lst [], .lst [], .lst []]) m.length (m.length + 3) (m.length + 4) (m.length + 6) ⟨R, 0, 0, []⟩ [] 0 Z := by
  have nw : ∀ j, m.length ≤ j → j ∉ Z := fun j hj hz => by
    have := hZ j hz
    omega
  refine ⟨⟨_, _, _, _, init_ed, Nat.le_refl _, ⟨nw _ (by omega), nw _ (by omega)⟩, by omega, by omega⟩, ⟨h3, by omega, by omega⟩, ⟨nw _ (by omega), nw _ (by omega), nw _ (by omega)⟩, fun k hk => by have := hZ k hk; rw [List.length_append]; omega, ?_, ?_, fun _ h => (by cases h), fun _ h => (by cases h)⟩
  · exact ⟨hR.many, List.length_pos_iff.mpr hR.ne, hR.len, Nat.zero_le _, Nat.zero_le _⟩
  · exact ⟨hR.sg, fun _ h => by cases h⟩
/-- the keys that a key comes to -/
theorem hand_l {m : M} {e t pa td n : Nat} {σ : Sht} {T : Tps} {Z : List Nat} (h : EdL m e t pa td σ T n Z) (k : Ky) (hk : k.ok) : match keyP T 22 0 k ⟨σ, 0, []⟩ with
    | .ok _ S => ∃ m', F_Editor_hand [.ref e, .d k.data] m = .ok (.ref (m.length + 3)) m' ∧ m'[m.length + 3]? = some (.lst (S.ks.map fun k => .d k.data)) ∧ (∀ k < m.length, m'[k]? = m[k]?) ∧ m'.length = m.length + 4 ∧ S.ks.length ≤ 400
    | .long => ∃ m', F_Editor_hand [.ref e, .d k.data] m = .er tooLong m' ∧ (∀ k < m.length, m'[k]? = m[k]?) ∧ m.length ≤ m'.length
    | .no => False := by
  obtain ⟨s, r, fu, P, hE, hPl, ⟨z1, z2⟩, l1, l2⟩ := h.ed
  have hn : F_need_key [.d k.data] m = .ok (.d .none) m := need_key_ok (Ky.is_key hk) (Ky.short hk)
  have le := getElem?_lt hE.ins
  have lt := getElem?_lt hE.tap
  have hi := hE.ins
  have c1 := copied_ok hE.sh
  generalize hm1 : m ++ [shI (m.length + 1) σ.row σ.col (rowOf σ.held), .lst (rowsW σ.rows)] = m1 at c1
  have lm1 : m1.length = m.length + 2 := by rw [← hm1]; simp
  have pl := player_ok (m := m1) (s := m.length) (t := t)
  rw [lm1] at pl
  have hi1 : m1[e]? = some (edI s t pa fu td) := by rw [← hm1]; exact app_at hi
  have run : Run (m1 ++ [plI m.length t (m.length + 3) 0, .lst []]) (m.length + 2) (m.length + 3) m.length (m.length + 1) t σ 0 [] := by
    rw [← hm1]
    simp only [List.append_assoc, List.cons_append, List.nil_append]
    refine ⟨⟨?_, ?_, by omega⟩, ?_, ?_, by omega, by omega, by omega, by omega, by omega⟩
    · rw [m_at0]; rfl
    · rw [m_at]; rfl
    · rw [m_at]; rfl
    · rw [m_at]; rfl
  have ht2 : (m1 ++ [plI m.length t (m.length + 3) 0, .lst []])[t]? = some (.dct (tapW T)) := by
    rw [← hm1]
    exact app_at (app_at hE.tap)
  have go := key_at (m0 := m1 ++ [plI m.length t (m.length + 3) 0, .lst []]) ⟨ht2, by omega, by omega, by omega, by omega, h.tok⟩ (tapeOf_len h.tln) 22 0 (by decide) (by decide) k hk _ ⟨σ, 0, []⟩ ⟨run, h.ok, h.sg, Nat.le_refl _, Nat.zero_le _, .refl⟩
  have hp := run.ins
  have hs := hE.sh.ins
  unfold shI at hs
  generalize hm2 : m1 ++ [plI m.length t (m.length + 3) 0, .lst []] = m2 at go hp pl
  have lm2 : m2.length = m.length + 4 := by rw [← hm2, List.length_append, lm1]; rfl
  have fr : ∀ {m3 : M}, Fra4 (m.length + 2) (m.length + 3) m.length (m.length + 1) m2 m3 → (∀ k < m.length, m3[k]? = m[k]?) ∧ m3.length = m.length + 4 := fun {m3} f => ⟨fun k hk => by
    rw [f.2 k (by omega) (by omega) (by omega) (by omega), ← hm2, List.getElem?_append_left (by omega), ← hm1, List.getElem?_append_left hk], f.1.trans lm2⟩
  unfold edI at hi hi1
  unfold plI at hp
  cases e1 : keyP T 22 0 k ⟨σ, 0, []⟩ with
  | no =>
    rw [e1] at go
    exact go
  | long =>
    rw [e1] at go
    obtain ⟨m3, e2, f2⟩ := go
    obtain ⟨f3, l3⟩ := fr f2
    refine ⟨m3, ?_, f3, by omega⟩
    simp only [Int.natCast_zero] at e2
    unfold F_Editor_hand B_Editor_hand
    simp_arith only [hn, hi, hs, c1, hi1, lm1, pl, hp, e2, e_ret, e_SE, y_kSe]
  | ok b S =>
    rw [e1] at go
    obtain ⟨_, m3, e2, a2⟩ := go
    obtain ⟨f3, l3⟩ := fr a2.fra
    have hp3 := a2.run.ins
    unfold plI at hp3
    refine ⟨m3, ?_, a2.run.lst, f3, l3, Nat.le_trans a2.len a2.le⟩
    simp only [Int.natCast_zero] at e2
    unfold F_Editor_hand B_Editor_hand
    simp_arith only [hn, hi, hs, c1, hi1, lm1, pl, hp, e2, hp3]
/-! two editors side by side -/
structure Two (m : M) (e t p d e' t' p' d' : Nat) (σ σ' : Sht) (T T' : Tps) (n : Nat) : Prop where
  a : EdL m e t p d σ T n [e', t', p']
  b : EdL m e' t' p' d' σ' T' n [e, t, p]
theorem Two.swap {m : M} {e t p d e' t' p' d' n : Nat} {σ σ' : Sht} {T T' : Tps} (h : Two m e t p d e' t' p' d' σ σ' T T' n) : Two m e' t' p' d' e t p d σ' σ T' T n := ⟨h.b, h.a⟩
theorem Two.upd {m m' : M} {e t p d e' t' p' d' n n' : Nat} {σ σ' τ : Sht} {T T' U : Tps} (h : Two m e t p d e' t' p' d' σ σ' T T' n) (a : EdL m' e t p d τ U n' [e', t', p']) (hm : ∀ k < m.length, k ≠ e → k ≠ t → k ≠ p → m'[k]? = m[k]?) (hl : m.length ≤ m'.length) (hn : n ≤ n') : Two m' e t p d e' t' p' d' τ σ' U T' n' :=
  ⟨a, h.b.of (fun k _ h2 h3 => by
    simp only [List.mem_cons, List.not_mem_nil, or_false, not_or] at h3
    exact hm k h2 h3.1 h3.2.1 h3.2.2) hl (fun k hk => ⟨.inl hk, Nat.lt_of_lt_of_le (h.b.zl k hk) hl⟩) hn⟩
theorem Two.of {m m' : M} {e t p d e' t' p' d' n : Nat} {σ σ' : Sht} {T T' : Tps} (h : Two m e t p d e' t' p' d' σ σ' T T' n) (hm : ∀ k, 3 ≤ k → k < m.length → m'[k]? = m[k]?) (hl : m.length ≤ m'.length) : Two m' e t p d e' t' p' d' σ σ' T T' n :=
  ⟨h.a.of (fun k h1 h2 _ => hm k h1 h2) hl (fun k hk => ⟨.inl hk, Nat.lt_of_lt_of_le (h.a.zl k hk) hl⟩) (Nat.le_refl _), h.b.of (fun k h1 h2 _ => hm k h1 h2) hl (fun k hk => ⟨.inl hk, Nat.lt_of_lt_of_le (h.b.zl k hk) hl⟩) (Nat.le_refl _)⟩
theorem Two.dr {d0 d1 : Dr} {rest : M} {e t p d e' t' p' d' n : Nat} {σ σ' : Sht} {T T' : Tps} (h : Two (dr d0 rest) e t p d e' t' p' d' σ σ' T T' n) : Two (FE.dr d1 rest) e t p d e' t' p' d' σ σ' T T' n :=
  h.of (fun k h1 _ => dr_hi h1) (by rw [dr_len, dr_len]; exact Nat.le_refl _)
theorem Two.lt {m : M} {e t p d e' t' p' d' n : Nat} {σ σ' : Sht} {T T' : Tps} (h : Two m e t p d e' t' p' d' σ σ' T T' n) : (e < m.length ∧ t < m.length ∧ p < m.length) ∧ (e' < m.length ∧ t' < m.length ∧ p' < m.length) ∧ (3 ≤ e ∧ 3 ≤ t ∧ 3 ≤ p) ∧ (3 ≤ e' ∧ 3 ≤ t' ∧ 3 ≤ p') := ⟨h.a.lt, h.b.lt, h.a.lo, h.b.lo⟩
def edBs (l : Nat) (R : List (List Nat)) : M := [edI (l + 1) (l + 3) (l + 4) (l + 5) (l + 6), shI (l + 2) 0 0 (rowOf []), .lst (rowsW R), .dct [], .lst [], .lst [], .lst []]
theorem init_e {R : List (List Nat)} {m : M} (hR : TextOk R) : F_Editor_init [.ref m.length, .d (.str (txt R))] (m ++ [.ins (Str.ofString "Editor") []]) = .ok (.d .none) (m ++ edBs m.length R) := init_ok hR.ne hR.sg hR.many hR.len
/-- two new ones -/
theorem two_new {R R' : List (List Nat)} {m : M} (hR : TextOk R) (hR' : TextOk R') (h3 : 3 ≤ m.length) :
    Two (m ++ edBs m.length R ++ edBs (m.length + 7) R') m.length (m.length + 3) (m.length + 4) (m.length + 6) (m.length + 7) (m.length + 10) (m.length + 11) (m.length + 13) ⟨R, 0, 0, []⟩ ⟨R', 0, 0, []⟩ [] [] 0 := by
  have a := init_l (m := m) (Z := []) hR h3 (fun k hk => by cases hk)
  have l1 : (m ++ edBs m.length R).length = m.length + 7 := by rw [List.length_append]; rfl
  have b := init_l (m := m ++ edBs m.length R) (Z := [m.length, m.length + 3, m.length + 4]) hR' (by omega) (fun k hk => by
    simp only [List.mem_cons, List.not_mem_nil, or_false] at hk
    omega)
  have l2 : (m ++ edBs m.length R ++ edBs (m.length + 7) R').length = m.length + 14 := by rw [List.length_append, l1]; rfl
  rw [l1] at b
  refine ⟨a.of (fun k _ h2 _ => ?_) ?_ (fun k hk => ?_) (Nat.le_refl _), b⟩
  · exact List.getElem?_append_left (by show k < (m ++ edBs m.length R).length; exact h2)
  · show (m ++ edBs m.length R).length ≤ _
    omega
  · simp only [List.mem_cons, List.not_mem_nil, or_false] at hk
    rw [l2]
    have l1' : (m ++ [edI (m.length + 1) (m.length + 3) (m.length + 4) (m.length + 5) (m.length + 6), shI (m.length + 2) 0 0 (rowOf []), .lst (rowsW R), .dct [], .lst [], .lst [], .lst []]).length = m.length + 7 := l1
    rw [l1']
    refine ⟨.inr ?_, ?_⟩ <;> omega
theorem EdL.textOk {m : M} {e t p d n : Nat} {σ : Sht} {T : Tps} {Z : List Nat} (h : EdL m e t p d σ T n Z) : TextOk σ.rows := ⟨h.ok.ne, h.ok.many, h.ok.len, h.sg.rows⟩
/-- text and place, told -/
def stD (σ : Sht) : PyData := .tuple [.str (txt σ.rows), .tuple [.int σ.row, .int σ.col]]
theorem strOk_app {a b : Str} (h1 : PyData.strOk a = true) (h2 : PyData.strOk b = true) : PyData.strOk (a ++ b) = true := by
  have h1 : (a.cps.all fun x => decide (x < 0x110000)) = true := h1
  have h2 : (b.cps.all fun x => decide (x < 0x110000)) = true := h2
  show ((a.cps ++ b.cps).all fun x => decide (x < 0x110000)) = true
  rw [Array.all_append, h1, h2]
  rfl
theorem strOk_join {sep : Str} (hs : PyData.strOk sep = true) : ∀ l : List Str, (∀ z ∈ l, PyData.strOk z = true) → PyData.strOk (Str.join sep l) = true
  | [], _ => by
    show PyData.strOk Str.empty = true
    decide +kernel
  | [x], h => h x List.mem_cons_self
  | x :: y :: l, h => strOk_app (strOk_app (h x List.mem_cons_self) hs) (strOk_join hs (y :: l) fun z hz => h z (List.mem_cons_of_mem _ hz))
theorem strOk_txt {R : List (List Nat)} (g : sgR R) : PyData.strOk (txt R) = true := by
  have e2 : txt R = Str.join (Str.ofString "\n") (R.map rowOf) := TL.join_eq _ _
  rw [e2]
  refine strOk_join (by decide +kernel) _ fun z hz => ?_
  obtain ⟨cs, hcs, rfl⟩ := List.mem_map.mp hz
  show ((cs.toArray).all fun x => decide (x < 0x110000)) = true
  rw [List.all_toArray, List.all_eq_true]
  intro c hc
  have h := g cs hcs c hc
  have h' := Bool.and_eq_true_iff.mp (show (decide (32 ≤ c) && decide (c ≤ 126)) = true from h)
  have := of_decide_eq_true h'.2
  exact decide_eq_true (by omega)
theorem stD_ok {σ : Sht} (g : σ.sg) : okD (stD σ) := by
  unfold stD
  refine okD_tup fun d hd => ?_
  simp only [List.mem_cons, List.not_mem_nil, or_false] at hd
  rcases hd with rfl | rfl
  · exact ⟨okD_str (strOk_txt g.rows), by show 0 ≤ _; omega⟩
  · refine ⟨okD_tup fun d hd => ?_, by simp [PyData.depth, PyData.depthAll]⟩
    simp only [List.mem_cons, List.not_mem_nil, or_false] at hd
    rcases hd with rfl | rfl
    · exact ⟨okD_int _, by show 0 ≤ _; omega⟩
    · exact ⟨okD_int _, by show 0 ≤ _; omega⟩
theorem stD_eq {σ τ : Sht} {s : FE.S} (g : σ.sg) (g2 : τ.sg) (h : stD σ = stD τ) : oEqD true (.d (stD σ)) (.d (stD τ)) s = .ok (.d (.bool false)) s := by
  rw [x_eqD (stD_ok g) (stD_ok g2), eqv_yes (stD_ok g) (stD_ok g2) h]
  rfl
/-! what x(lambda: ..) tells -/
theorem kind_m {sl : List Sl} {m : M} {b : EF} (h0 : m[0]? = some TB) : eKind 0 (Str.ofString "law") (Str.ofString "law.<locals>.<lambda>") b ⟨sl, m⟩ = (match b ⟨hide sl, m⟩ with
    | .ok _ s' => .ok (.d (.str (Str.ofString ""))) ⟨sl, s'.m⟩
    | .er e m => match e.f, kndWord e.c with
      | none, some wd => .ok (.d (.str wd)) ⟨sl, m⟩
      | _, _ => .no
    | .no => .no) := by
  unfold TB at h0
  have h0 : m[0]? = some (.tbl (Str.ofString "law") (Str.ofString "law.<locals>.<lambda>")) := h0
  unfold eKind
  simp only [h0, and_self, if_true]
  all_goals
    cases b ⟨hide sl, m⟩ with
    | no => rfl
    | ok w s' => rfl
    | er e m =>
      simp only
      all_goals cases e.f <;> cases kndWord e.c <;> rfl
theorem kind_ok {sl : List Sl} {m : M} {b : EF} {w : W} {sl' : List Sl} {m' : M} (h0 : m[0]? = some TB) (h : b ⟨hide sl, m⟩ = .ok w ⟨sl', m'⟩) : eKind 0 (Str.ofString "law") (Str.ofString "law.<locals>.<lambda>") b ⟨sl, m⟩ = .ok (.d (.str (Str.ofString ""))) ⟨sl, m'⟩ := by
  rw [kind_m h0, h]
theorem kind_er {sl : List Sl} {m : M} {b : EF} {m' : M} (h0 : m[0]? = some TB) (h : b ⟨hide sl, m⟩ = .er tooLong m') : eKind 0 (Str.ofString "law") (Str.ofString "law.<locals>.<lambda>") b ⟨sl, m⟩ = .ok (.d (.str (Str.ofString "TooLong"))) ⟨sl, m'⟩ := by
  rw [kind_m h0, h]
  have : kndWord tooLong.c = some (Str.ofString "TooLong") := by decide +kernel
  simp only [tooLong] at this ⊢
  rw [this]
/-- the tapes one by one -/
theorem Tapes.at {T : Tps} (h : Tapes T 8) {i : Nat} (hi : i < T.length) : (∃ n, nameOk n ∧ T[i].1 = rowOf [n]) ∧ (T.take i).lookup T[i].1 = Option.none ∧ T.lookup T[i].1 = some T[i].2 := by
  have nd : (T.map (·.1)).Nodup := h.sub.nodup (by
    rw [show nm8.take 8 = nm8 from rfl]
    decide +kernel)
  have hm : T[i].1 ∈ T.map (·.1) := List.mem_map.mpr ⟨_, List.getElem_mem hi, rfl⟩
  obtain ⟨n, hn, en⟩ := List.mem_map.mp (h.sub.subset hm)
  have no : ∀ n ∈ nm8.take 8, nameOk n := by
    rw [show nm8.take 8 = nm8 from rfl]
    intro n hn
    unfold nm8 at hn
    unfold nameOk
    simp only [List.mem_cons, List.not_mem_nil, or_false] at hn
    omega
  have uniq : ∀ {j : Nat} (hj : j < T.length), T[j].1 = T[i].1 → j = i := fun {j} hj e => by
    refine (List.getElem_inj nd (h₀ := by simpa using hj) (h₁ := by simpa using hi)).mp ?_
    rw [List.getElem_map, List.getElem_map]
    exact e
  refine ⟨⟨n, no n hn, en.symm⟩, ?_, ?_⟩
  · cases e : (T.take i).lookup T[i].1 with
    | none => rfl
    | some ks =>
      obtain ⟨j, hj, ej⟩ := List.mem_iff_getElem.mp (PySem.mem_of_lookup e)
      rw [List.length_take] at hj
      rw [List.getElem_take] at ej
      have := uniq (j := j) (by omega) (by rw [ej])
      omega
  · cases e : T.lookup T[i].1 with
    | none =>
      exfalso
      have : ∀ (l : Tps) (y : Str × List Ky), y ∈ l → l.lookup y.1 ≠ Option.none := fun l y hy => by
        induction l with
        | nil => cases hy
        | cons z l ih =>
          obtain ⟨z1, z2⟩ := z
          rw [List.lookup_cons]
          by_cases q : y.1 = z1
          · rw [show (y.1 == z1) = true from beq_iff_eq.mpr q]
            exact fun z => by cases z
          · rw [show (y.1 == z1) = false from beq_eq_false_iff_ne.mpr q]
            rcases List.mem_cons.mp hy with rfl | hy
            · exact absurd rfl q
            · exact ih hy
      exact this T T[i] (List.getElem_mem hi) e
    | some ks =>
      obtain ⟨j, hj, ej⟩ := List.mem_iff_getElem.mp (PySem.mem_of_lookup e)
      have := uniq (j := j) hj (by rw [ej])
      subst this
      rw [ej]
theorem keys_srt {T : Tps} (h : Tapes T 8) : sortK (T.map (·.1)) = T.map (·.1) := by
  refine sortK_id (List.Pairwise.sublist h.sub ?_)
  rw [show nm8.take 8 = nm8 from rfl]
  decide +kernel
/-! tapes told by rising names -/
theorem look_app {T : Tps} {x : Str} {ks : List Ky} : ∀ {y : Str}, (T ++ [(y, ks)]).lookup x = (match T.lookup x with | some z => some z | none => if x = y then some ks else none) := by
  intro y
  induction T with
  | nil =>
    show List.lookup x [(y, ks)] = _
    rw [List.lookup_cons]
    by_cases q : x = y
    · rw [show (x == y) = true from beq_iff_eq.mpr q]
      simp [q]
    · rw [show (x == y) = false from beq_eq_false_iff_ne.mpr q]
      simp [q]
  | cons u T ih =>
    obtain ⟨u1, u2⟩ := u
    rw [List.cons_append, List.lookup_cons, List.lookup_cons, ih]
    cases (x == u1) <;> rfl
theorem mergeT_take {T U : Tps} {i : Nat} (hi : i < U.length) : mergeT T (U.take (i + 1)) = putT U[i].1 U[i].2 (mergeT T (U.take i)) := by
  unfold mergeT
  rw [List.take_succ, List.getElem?_eq_getElem hi, List.foldl_append]
  rfl
theorem mergeT_nil {U : Tps} (hU : Tapes U 8) : mergeT [] U = U := by
  have go : ∀ i, i ≤ U.length → mergeT [] (U.take i) = U.take i := fun i => by
    induction i with
    | zero => exact fun _ => rfl
    | succ i ih =>
      intro hi
      rw [mergeT_take (by omega), ih (by omega)]
      unfold putT
      rw [(hU.at (by omega : i < U.length)).2.1]
      rw [List.take_succ, List.getElem?_eq_getElem (by omega : i < U.length)]
      rfl
  have := go U.length (Nat.le_refl _)
  rwa [List.take_length] at this
theorem sort_l {m : M} {q : Nat} {U : Tps} (hU : Tapes U 8) (hq : m[q]? = some (.dct (tapW U))) (sl : List Sl) : bSortD [.ref q] ⟨sl, m⟩ = .ok (((U.map (·.1)).map PyData.str).map W.d) ⟨sl, m⟩ := by
  have k1 : (tapW U).map (·.1) = U.map (·.1) := by
    unfold tapW
    rw [List.map_map]
    rfl
  have k2 : (tapW U).length < 64 := by
    have := hU.len
    unfold tapW
    rw [List.length_map]
    omega
  unfold bSortD
  simp only [hq, k1, k2, keys_srt hU, if_true, List.map_map]
  all_goals rfl
theorem tapes_loop {b : SF} {j e t pa td n q : Nat} {σ : Sht} {T U : Tps} {Z : List Nat} {sl : List Sl} {m : M} {z0 : Sl} (hU : Tapes U 8) (h : EdL m e t pa td σ T n Z) (hT : T.length < 900) (hq : m[q]? = some (.dct (tapW U))) (hqt : q ≠ t) (hz : sl[j]? = some z0)
    (hb : ∀ (x : Str) (ks : List Ky) (m m' : M), look x (tapW U) = some (tapeW ks) → m[q]? = some (.dct (tapW U)) → (∃ s fu, m[e]? = some (.ins (Str.ofString "Editor") [(Str.ofString "sheet", .ref s), (Str.ofString "tapes", .ref t), (Str.ofString "past", .ref pa), (Str.ofString "future", .ref fu), (Str.ofString "taping", .d .none), (Str.ofString "taped", .ref td)])) →
      F_Editor_tape [.ref e, .d (.str x), tapeW ks] m = .ok (.d .none) m' → b ⟨sl.set j (.v (.d (.str x))), m⟩ = .nx ⟨sl.set j (.v (.d (.str x))), m'⟩) :
    ∃ m' z, (z = z0 ∨ ∃ w, z = .v w) ∧ loopF (gN j) b (((U.map (·.1)).map PyData.str).map W.d) ⟨sl, m⟩ = .nx ⟨sl.set j z, m'⟩ ∧ EdL m' e t pa td σ (mergeT T U) n Z ∧ (∀ k, k ≠ t → m'[k]? = m[k]?) ∧ m'.length = m.length := by
  obtain ⟨s', el, m', z, hz', hE, hf, hl, rfl⟩ := loopF_inv (g := gN j) (b := b) (((U.map (·.1)).map PyData.str).map W.d) (fun i x => ∃ m' z, (z = z0 ∨ ∃ w, z = .v w) ∧ EdL m' e t pa td σ (mergeT T (U.take i)) n Z ∧ (∀ k, k ≠ t → m'[k]? = m[k]?) ∧ m'.length = m.length ∧ x = ⟨sl.set j z, m'⟩) (fun i hi x ⟨m1, z, _, h1, f1, l1, hx⟩ => by
    subst hx
    have hi' : i < U.length := by simpa using hi
    obtain ⟨⟨c, hc, en⟩, _, hk⟩ := hU.at hi'
    have ok := hU.ok U[i] (List.getElem_mem hi')
    have ln := hU.ln U[i] (List.getElem_mem hi')
    have hz : (mergeT T (U.take i)).length < 1000 := by
      have h1 := mergeT_len (T := T) (U := U.take i)
      have h2 := hU.len
      rw [List.length_take] at h1
      omega
    obtain ⟨m2, e2, E2, f2, l2⟩ := tape_l h1 hc ok ln hz
    rw [← en] at e2 E2
    rw [← mergeT_take hi'] at E2
    have lk : look U[i].1 (tapW U) = some (tapeW U[i].2) := by rw [look_tap, hk]; rfl
    have e3 := hb U[i].1 U[i].2 m1 m2 lk ((f1 q hqt).trans hq) h1.ins e2
    rw [List.getElem_map, List.getElem_map, List.getElem_map]
    refine ⟨⟨sl.set j (.v (.d (.str U[i].1))), m1⟩, _, ?_, e3, m2, _, .inr ⟨_, rfl⟩, E2, fun k hk => (f2 k hk).trans (f1 k hk), l2.trans l1, rfl⟩
    rw [y_gN z_d, List.set_set]) ⟨sl, m⟩ ⟨m, z0, .inl rfl, h, fun _ _ => rfl, rfl, by
      have : sl.set j z0 = sl := by
        obtain ⟨hj, ez⟩ := List.getElem?_eq_some_iff.mp hz
        rw [← ez]
        exact List.set_getElem_self hj
      rw [this]⟩
  refine ⟨m', z, hz', el, ?_, hf, hl⟩
  have l : (((U.map (·.1)).map PyData.str).map W.d).length = U.length := by simp
  rw [l, List.take_length] at hE
  exact hE
theorem signOk_name {n : Nat} (h : nameOk n) : signOk n = true := by
  obtain ⟨h1, h2⟩ := h
  show (decide (32 ≤ n) && decide (n ≤ 126)) = true
  simp only [Bool.and_eq_true, decide_eq_true_eq]
  omega
theorem Ky.okD {k : Ky} (h : k.ok) : KR.okD k.data ∧ k.data.depth ≤ 1 := by
  have hw : PyData.strOk k.word = true := by
    cases k with
    | bare b => cases b <;> decide +kernel
    | _ => show PyData.strOk (Str.ofString _) = true; decide +kernel
  have leaf : ∀ d ∈ PyData.str k.word :: k.rest, KR.okD d ∧ d.depth ≤ 0 := fun d hd => by
    rcases List.mem_cons.mp hd with rfl | hd
    · exact ⟨okD_str hw, Nat.le_refl _⟩
    · cases k with
      | put c =>
        rw [List.mem_singleton.mp hd]
        exact ⟨okD_str (row_strOk fun x hx => by rw [List.mem_singleton.mp hx]; exact h), Nat.le_refl _⟩
      | find w =>
        rw [List.mem_singleton.mp hd]
        exact ⟨okD_str (row_strOk h.2.2), Nat.le_refl _⟩
      | play n j =>
        simp only [Ky.rest, List.mem_cons, List.not_mem_nil, or_false] at hd
        rcases hd with rfl | rfl
        · exact ⟨okD_str (row_strOk fun x hx => by rw [List.mem_singleton.mp hx]; exact signOk_name h.1), Nat.le_refl _⟩
        · exact ⟨okD_int _, Nat.le_refl _⟩
      | till n =>
        rw [List.mem_singleton.mp hd]
        exact ⟨okD_str (row_strOk fun x hx => by rw [List.mem_singleton.mp hx]; exact signOk_name h), Nat.le_refl _⟩
      | bare b => cases hd
  refine ⟨okD_tup fun d hd => ⟨(leaf d hd).1, Nat.le_trans (leaf d hd).2 (Nat.zero_le _)⟩, ?_⟩
  have all : ∀ ds : List PyData, (∀ d ∈ ds, d.depth ≤ 0) → PyData.depthAll ds ≤ 0 := fun ds => by
    induction ds with
    | nil => exact fun _ => by simp [PyData.depthAll]
    | cons d ds ih =>
      intro q
      have h1 := q d List.mem_cons_self
      have h2 := ih fun x hx => q x (List.mem_cons_of_mem _ hx)
      simp only [PyData.depthAll]
      omega
  have h2 := all _ fun d hd => (leaf d hd).2
  show PyData.depth (.tuple _) ≤ 1
  simp only [PyData.depth]
  omega
theorem tape_okD {ks : List Ky} (h : ∀ k ∈ ks, Ky.ok k) : KR.okD (.tuple (ks.map Ky.data)) := okD_tup fun d hd => by
  obtain ⟨k, hk, rfl⟩ := List.mem_map.mp hd
  exact ⟨(Ky.okD (h k hk)).1, Nat.le_trans (Ky.okD (h k hk)).2 (by decide : 1 ≤ 10)⟩
theorem tape_eq {ks : List Ky} (h : ∀ k ∈ ks, Ky.ok k) (ng : Bool) (s : S) : oEqD ng (tapeW ks) (tapeW ks) s = .ok (.d (.bool (!ng))) s := by
  have k1 := tape_okD h
  unfold tapeW
  rw [x_eqD k1 k1, eqv_yes k1 k1 rfl]
  cases ng <;> rfl
/-- one of two, three letters -/
theorem pickAB {z : Str} {A : Int} (hz : ∃ l : List Nat, z.cps.toList = l ∧ (l.length : Int) = A ∧ ∀ c ∈ l, nameOk c) (d : Dr) (h0 : 0 < A) : ∃ c, z.cps.toList[(nx d A).toNat]? = some c ∧ nameOk c := by
  obtain ⟨l, e, hl, hc⟩ := hz
  rw [e]
  exact pickL l hl d h0 hc
/-! by other signs -/
structure Sgn (f : Nat → Nat) : Prop where
  inj : ∀ a b, f a = f b → a = b
  let_ : ∀ c, letter (f c) = letter c
  ok : ∀ c, signOk (f c) = signOk c
def mapS (f : Nat → Nat) (σ : Sht) : Sht := ⟨σ.rows.map (List.map f), σ.row, σ.col, σ.held.map f⟩
def mapK (f : Nat → Nat) : Ky → Ky
  | .put c => .put (f c)
  | .find w => .find (w.map f)
  | k => k
def mapT (f : Nat → Nat) (T : Tps) : Tps := T.map fun y => (y.1, y.2.map (mapK f))
def mapP (f : Nat → Nat) (s : PSt) : PSt := ⟨mapS f s.sh, s.n, s.ks.map (mapK f)⟩
def mapR (f : Nat → Nat) : PR → PR
  | .ok b s => .ok b (mapP f s)
  | .long => .long
  | .no => .no
section
variable {f : Nat → Nat} {σ : Sht}
theorem mapS_here : (mapS f σ).here = σ.here.map f := by
  unfold Sht.here mapS
  simp only [List.getElem?_map]
  cases σ.rows[σ.row]? <;> rfl
theorem mapS_len (n : Nat) : (mapS f σ).len n = σ.len n := by
  unfold Sht.len mapS
  simp only [List.getElem?_map]
  cases σ.rows[n]? <;> simp
theorem mapS_laid (z : List Nat) : (mapS f σ).laid (z.map f) = (σ.laid z).map (mapS f) := by
  unfold Sht.laid
  rw [mapS_here, List.length_map, List.length_map]
  split
  · rfl
  · simp only [mapS, Option.map_some, List.map_set, List.map_append, List.map_take, List.map_drop]
theorem mapS_part : (mapS f σ).part = σ.part.map (mapS f) := by
  unfold Sht.part
  rw [mapS_here]
  have : (mapS f σ).rows.length = σ.rows.length := List.length_map _
  rw [this]
  split
  · rfl
  · simp only [mapS, Option.map_some, List.map_append, List.map_cons, List.map_nil, List.map_take, List.map_drop]
theorem mapS_rub : (mapS f σ).rub = σ.rub.map (mapS f) := by
  unfold Sht.rub
  rw [mapS_here, mapS_len, List.length_map]
  have e1 : (mapS f σ).col = σ.col := rfl
  have e2 : (mapS f σ).row = σ.row := rfl
  rw [e1, e2]
  by_cases c : 0 < σ.col
  · rw [if_pos c, if_pos c]
    simp only [mapS, Option.map_some, List.map_set, List.map_append, List.map_take, List.map_drop]
  · rw [if_neg c, if_neg c]
    by_cases d : σ.row = 0 ∨ σ.len (σ.row - 1) + σ.here.length > 60
    · rw [if_pos d, if_pos d]
      rfl
    · rw [if_neg d, if_neg d]
      have e : ((mapS f σ).rows[σ.row - 1]?.getD []) = (σ.rows[σ.row - 1]?.getD []).map f := by
        unfold mapS
        simp only [List.getElem?_map]
        cases σ.rows[σ.row - 1]? <;> rfl
      rw [e]
      simp only [mapS, Option.map_some, List.map_append, List.map_cons, List.map_nil, List.map_take, List.map_drop]
theorem mapS_at (a b : Nat) : (mapS f σ).at_ a b = mapS f (σ.at_ a b) := rfl
theorem mapS_move (k : Mv) : (mapS f σ).move k = (σ.move k).map (mapS f) := by
  have e1 : (mapS f σ).col = σ.col := rfl
  have e2 : (mapS f σ).row = σ.row := rfl
  have e3 : (mapS f σ).rows.length = σ.rows.length := List.length_map _
  cases k <;> simp only [Sht.move, mapS_here, mapS_len, List.length_map, mapS_at, e1, e2, e3] <;> (repeat' split) <;> rfl
theorem map_while (h : Sgn f) : ∀ l : List Nat, (l.map f).takeWhile letter = (l.takeWhile letter).map f
  | [] => rfl
  | c :: l => by
    rw [List.map_cons, List.takeWhile_cons, List.takeWhile_cons, h.let_ c, map_while h l]
    split <;> rfl
theorem mapS_taken (h : Sgn f) : (mapS f σ).taken = σ.taken.map (mapS f) := by
  unfold Sht.taken
  rw [mapS_here]
  have e1 : (mapS f σ).col = σ.col := rfl
  rw [e1, ← List.map_drop, map_while h]
  simp only [List.length_map]
  split
  · rfl
  · simp only [mapS, Option.map_some, List.map_set, List.map_append, List.map_take, List.map_drop]
theorem hits_map (h : Sgn f) (cs w : List Nat) (i : Nat) : hits (cs.map f) (w.map f) i = hits cs w i := by
  unfold hits
  rw [← List.map_drop, List.length_map, ← List.map_take, Bool.eq_iff_iff, beq_iff_eq, beq_iff_eq]
  exact ⟨fun e => (List.map_inj_right h.inj).mp e, fun e => by rw [e]⟩
theorem findFrom_map (h : Sgn f) (cs w : List Nat) (p : Nat) : findFrom (cs.map f) (w.map f) p = findFrom cs w p := by
  unfold findFrom
  rw [List.length_map]
  congr 1
  funext i
  exact hits_map h cs w i
theorem findRows_map (h : Sgn f) (w : List Nat) : ∀ (R : List (List Nat)) (n p : Nat), findRows (w.map f) (R.map (List.map f)) n p = findRows w R n p
  | [], _, _ => rfl
  | cs :: R, n, p => by
    rw [List.map_cons]
    unfold findRows
    rw [findFrom_map h, findRows_map h w R]
theorem mapS_found (h : Sgn f) (w : List Nat) : (mapS f σ).found (w.map f) = (σ.found w).map (mapS f) := by
  unfold Sht.found
  have e1 : (mapS f σ).col = σ.col := rfl
  have e2 : (mapS f σ).row = σ.row := rfl
  have e3 : (mapS f σ).rows.drop σ.row = (σ.rows.drop σ.row).map (List.map f) := by
    unfold mapS
    rw [List.map_drop]
  rw [e1, e2, e3, findRows_map h]
  cases findRows w (σ.rows.drop σ.row) σ.row (σ.col + 1) <;> rfl
theorem do1_map (h : Sgn f) (k : Ky) : (mapS f σ).do1 (mapK f k) = (σ.do1 k).map (mapS f) := by
  cases k with
  | put c => exact mapS_laid [c]
  | find w => exact mapS_found h w
  | play n j => rfl
  | till n => rfl
  | bare b =>
    cases b with
    | brk => exact mapS_part
    | rub => exact mapS_rub
    | left => exact mapS_move .left
    | right => exact mapS_move .right
    | up => exact mapS_move .up
    | down => exact mapS_move .down
    | home => exact mapS_move .home
    | fin => exact mapS_move .fin
    | take => exact mapS_taken h
    | lay =>
      show (if (mapS f σ).held.length = 0 then none else (mapS f σ).laid (mapS f σ).held) = Option.map (mapS f) (if σ.held.length = 0 then none else σ.laid σ.held)
      have e : (mapS f σ).held = σ.held.map f := rfl
      rw [e, List.length_map, mapS_laid]
      split <;> rfl
end
theorem tapeOf_map {f : Nat → Nat} {T : Tps} (n : Nat) : tapeOf (mapT f T) n = (tapeOf T n).map (mapK f) := by
  unfold tapeOf mapT
  induction T with
  | nil => rfl
  | cons y T ih =>
    obtain ⟨y1, y2⟩ := y
    rw [List.map_cons, List.lookup_cons, List.lookup_cons]
    cases (rowOf [n] == y1) with
    | true => rfl
    | false => exact ih
section
variable {f : Nat → Nat} (h : Sgn f)
def Eqv (f : Nat → Nat) (kf kf' : PSt → PR) : Prop := ∀ s, kf' (mapP f s) = mapR f (kf s)
theorem eqv_all {kf kf' : Ky → PSt → PR} (hk : ∀ k, Eqv f (kf k) (kf' (mapK f k))) : ∀ ks : List Ky, Eqv f (allP kf ks) (allP kf' (ks.map (mapK f)))
  | [] => fun s => rfl
  | k :: r => fun s => by
    rw [List.map_cons]
    unfold allP
    rw [hk k s]
    cases kf k s with
    | no => rfl
    | long => rfl
    | ok b s' =>
      cases b with
      | false => rfl
      | true => exact eqv_all hk r s'
theorem eqv_tick {g g' : PSt → PR} (hk : Eqv f g g') : Eqv f (tickP g) (tickP g') := fun s => by
  unfold tickP
  have e : (mapP f s).n = s.n := rfl
  rw [e]
  split
  · exact hk ⟨s.sh, s.n + 1, s.ks⟩
  · rfl
theorem eqv_plays {g g' : PSt → PR} (hk : Eqv f g g') : ∀ j, Eqv f (playsP g j) (playsP g' j)
  | 0 => fun s => rfl
  | j + 1 => fun s => by
    unfold playsP
    rw [hk s]
    cases g s with
    | no => rfl
    | long => rfl
    | ok b s' =>
      cases b with
      | false => rfl
      | true => exact eqv_plays hk j s'
theorem eqv_till {g g' : PSt → PR} (hk : Eqv f g g') : ∀ j, Eqv f (tillP g j) (tillP g' j)
  | 0 => fun s => rfl
  | j + 1 => fun s => by
    unfold tillP
    rw [hk s]
    cases g s with
    | no => rfl
    | long => rfl
    | ok b s' =>
      cases b with
      | false => rfl
      | true => exact eqv_till hk j s'
include h in
theorem eqv_key {T : Tps} : ∀ (l d : Nat) (k : Ky), Eqv f (keyP T l d k) (keyP (mapT f T) l d (mapK f k))
  | 0, d, k => fun s => rfl
  | l + 1, d, k => eqv_tick fun s => by
    have single : (match (mapP f s).sh.do1 (mapK f k) with
        | some τ => PR.ok true ⟨τ, (mapP f s).n, (mapP f s).ks ++ [mapK f k]⟩
        | none => .ok false (mapP f s)) = mapR f (match s.sh.do1 k with
        | some τ => .ok true ⟨τ, s.n, s.ks ++ [k]⟩
        | none => .ok false s) := by
      have e : (mapP f s).sh = mapS f s.sh := rfl
      rw [e, do1_map h]
      cases s.sh.do1 k with
      | none => rfl
      | some τ =>
        show PR.ok true ⟨mapS f τ, s.n, s.ks.map (mapK f) ++ [mapK f k]⟩ = .ok true ⟨mapS f τ, s.n, (s.ks ++ [k]).map (mapK f)⟩
        rw [List.map_append]
        rfl
    unfold doneP
    cases k with
    | put c => exact single
    | find w => exact single
    | bare b => exact single
    | play n j =>
      show (if d < 20 then playsP (onceP _ (tapeOf (mapT f T) n)) j (mapP f s) else .ok false (mapP f s)) = _
      rw [tapeOf_map]
      split
      · exact eqv_plays (eqv_tick (eqv_all (fun k => eqv_key l (d + 1) k) _)) j s
      · rfl
    | till n =>
      show (if d < 20 then tillP (onceP _ (tapeOf (mapT f T) n)) 1000 (mapP f s) else .ok false (mapP f s)) = _
      rw [tapeOf_map]
      split
      · exact eqv_till (eqv_tick (eqv_all (fun k => eqv_key l (d + 1) k) _)) 1000 s
      · rfl
end
/-! the signs' dict -/
def sgW (F : List (Nat × Nat)) : List (Str × W) := F.map fun y => (rowOf [y.1], .d (.str (rowOf [y.2])))
def fn (F : List (Nat × Nat)) (c : Nat) : Nat := (F.lookup c).getD c
theorem look_sg (F : List (Nat × Nat)) (c : Nat) : look (rowOf [c]) (sgW F) = (F.lookup c).map fun b => W.d (.str (rowOf [b])) := by
  induction F with
  | nil => rfl
  | cons y F ih =>
    obtain ⟨a, b⟩ := y
    show look (rowOf [c]) ((rowOf [a], W.d (.str (rowOf [b]))) :: sgW F) = _
    rw [look_cons, List.lookup_cons]
    by_cases e : a = c
    · subst e
      simp
    · have e1 : ¬ rowOf [a] = rowOf [c] := fun z => e (rowOf_inj1 z)
      have e2 : (c == a) = false := beq_eq_false_iff_ne.mpr fun z => e z.symm
      rw [if_neg e1, e2, ih]
theorem look_fn (F : List (Nat × Nat)) (c : Nat) : (look (rowOf [c]) (sgW F)).getD (.d (.str (rowOf [c]))) = .d (.str (rowOf [fn F c])) := by
  rw [look_sg]
  unfold fn
  cases F.lookup c <;> rfl
theorem signs_row1 (cs : List Nat) : FE.signs (rowOf cs) = cs.map fun c => W.d (.str (rowOf [c])) := by
  unfold FE.signs
  simp [rowOf]
theorem stl_rows (cs : List Nat) : stl (cs.map fun c => (⟨#[c]⟩ : Str)) = cs.map fun c => W.d (.str (rowOf [c])) := by
  unfold stl
  rw [List.map_map, List.map_map]
  rfl
/-- a row by other signs -/
theorem row_turn {sl : List Sl} {i : Nat} {m : M} {e : EF} {F : List (Nat × Nat)} (hsl : sl[i]? = some .no) (he : ∀ c : Nat, e ⟨sl.set i (.v (.d (.str (rowOf [c])))), m⟩ = .ok (.d (.str (rowOf [fn F c]))) ⟨sl.set i (.v (.d (.str (rowOf [c])))), m⟩) (cs : List Nat) :
    loopC i cT e (cs.map fun c => W.d (.str (rowOf [c]))) ⟨sl, m⟩ = .ok (stl ((cs.map (fn F)).map fun c => ⟨#[c]⟩)) ⟨sl, m⟩ := by
  have hset : sl.set i .no = sl := set_no hsl
  induction cs with
  | nil => rfl
  | cons c cs ih =>
    have e1 := he c
    rw [List.map_cons]
    simp only [loopC, cT, e1, z_d, if_true, List.set_set, hset, ih]
    rfl
theorem turned_ok {m : M} {g : Nat} {F : List (Nat × Nat)} (hg : m[g]? = some (.dct (sgW F))) (k : Ky) (hk : k.ok) : F_law_turned [.ref g, .d k.data] m = .ok (.d (mapK (fn F) k).data) m := by
  have body : ∀ (z : Sl) (c : Nat), B_law_turned_1 ⟨[.v (.ref g), z, .no].set 2 (.v (.d (.str (rowOf [c])))), m⟩ = .ok (.d (.str (rowOf [fn F c]))) ⟨[.v (.ref g), z, .no].set 2 (.v (.d (.str (rowOf [c])))), m⟩ := fun z c => by
    have lk := look_fn F c
    unfold B_law_turned_1
    simp_arith only [hg, lk]
  have main : ∀ (w : Str) (cs : List Nat), cs.length ≤ 100 → (w = Str.ofString "put" ∨ w = Str.ofString "find") → F_law_turned [.ref g, .d (.tuple [.str w, .str (rowOf cs)])] m = .ok (.d (.tuple [.str w, .str (rowOf (cs.map (fn F)))])) m := fun w cs hl hw => by
    have cp := row_turn (sl := [.v (.ref g), .v (.d (.tuple [.str w, .str (rowOf cs)])), .no]) (i := 2) (F := F) rfl (body _) cs
    rw [← signs_row1] at cp
    have hw' : (w = Str.ofString "put" ∨ w = Str.ofString "find") = True := eq_true hw
    have l1 : (rowOf cs).length ≤ 100000 := by rw [rowOf_len]; omega
    have l2 : (cs.map (fn F)).length ≤ 100000 := by rw [List.length_map]; omega
    generalize cs.map (fn F) = cs' at cp l2
    unfold F_law_turned B_law_turned
    simp_arith only [hw', l1, cp, stl_allD, join_row, join_fit l2]
  have other : ∀ (w : Str) (r : List PyData), ¬ w = Str.ofString "put" → ¬ w = Str.ofString "find" → F_law_turned [.ref g, .d (.tuple (.str w :: r))] m = .ok (.d (.tuple (.str w :: r))) m := fun w r h1 h2 => by
    unfold F_law_turned B_law_turned
    simp_arith only [h1, h2]
  cases k with
  | put c => exact main _ [c] (by simp) (.inl rfl)
  | find w => exact main _ w (by have := hk.2.1; omega) (.inr rfl)
  | play n j => exact other _ _ (by show ¬ Str.ofString "play" = _; decide +kernel) (by show ¬ Str.ofString "play" = _; decide +kernel)
  | till n => exact other _ _ (by show ¬ Str.ofString "till" = _; decide +kernel) (by show ¬ Str.ofString "till" = _; decide +kernel)
  | bare b => exact other b.word [] (by cases b <;> decide +kernel) (by cases b <;> decide +kernel)
/-! a text by other signs -/
theorem str_eta (z : Str) : rowOf z.cps.toList = z := by
  cases z
  rfl
theorem txt_cps (R : List (List Nat)) : (txt R).cps.toList = (Str.join (Str.ofString "\n") (R.map rowOf)).cps.toList := by
  have e2 : txt R = Str.join (Str.ofString "\n") (R.map rowOf) := TL.join_eq _ _
  rw [e2]
theorem app_cps (a b : Str) : (a ++ b).cps.toList = a.cps.toList ++ b.cps.toList := by
  show (a.cps ++ b.cps).toList = _
  simp
theorem txt_map {f : Nat → Nat} (h10 : f 10 = 10) : ∀ R : List (List Nat), (txt R).cps.toList.map f = (txt (R.map (List.map f))).cps.toList
  | [] => by
    rw [txt_cps, txt_cps]
    rfl
  | [x] => by
    rw [txt_cps, txt_cps]
    show (rowOf x).cps.toList.map f = (rowOf (x.map f)).cps.toList
    simp [rowOf]
  | x :: y :: R => by
    have ih := txt_map h10 (y :: R)
    rw [txt_cps, txt_cps] at ih ⊢
    show ((rowOf x ++ Str.ofString "\n") ++ Str.join (Str.ofString "\n") ((y :: R).map rowOf)).cps.toList.map f = ((rowOf (x.map f) ++ Str.ofString "\n") ++ Str.join (Str.ofString "\n") (((y :: R).map (List.map f)).map rowOf)).cps.toList
    rw [app_cps, app_cps, app_cps, app_cps, List.map_append, List.map_append, ih]
    have en : (Str.ofString "\n").cps.toList = [10] := by decide +kernel
    have er : ∀ l : List Nat, (rowOf l).cps.toList = l := fun l => by simp [rowOf]
    rw [en, er, er, List.map_cons, List.map_nil, h10]
theorem txt_turn {f : Nat → Nat} (h10 : f 10 = 10) (R : List (List Nat)) : rowOf ((txt R).cps.toList.map f) = txt (R.map (List.map f)) := by
  rw [txt_map h10, str_eta]
abbrev sl14 (ns : List Int) (g : Nat) (z3 z4 z5 z6 z7 z8 z9 z10 z11 z12 z13 z14 z15 z16 : Sl) : List Sl := [.v (.scr ns), .v (.ref 2), .v (.ref g), z3, z4, z5, z6, z7, z8, z9, z10, z11, z12, z13, z14, z15, z16]
def chs (L : List Nat) : List W := L.map fun c => W.d (.str (rowOf [c]))
theorem chs_frees (L : List Nat) : frees (chs L) = true := by
  unfold chs
  have := frees_map (L.map fun c => PyData.str (rowOf [c]))
  rwa [List.map_map] at this
theorem putD_sg {F : List (Nat × Nat)} {a b : Nat} (h : F.lookup a = none) : putD (rowOf [a]) (.d (.str (rowOf [b]))) (sgW F) = sgW (F ++ [(a, b)]) := by
  unfold putD
  rw [look_eq, look_sg, h]
  show sgW F ++ [(rowOf [a], W.d (.str (rowOf [b])))] = _
  unfold sgW
  rw [List.map_append]
  rfl
theorem lookup_app {F : List (Nat × Nat)} {a b c : Nat} : (F ++ [(a, b)]).lookup c = (match F.lookup c with | some x => some x | none => if c = a then some b else none) := by
  induction F with
  | nil =>
    show List.lookup c [(a, b)] = _
    rw [List.lookup_cons]
    by_cases q : c = a
    · rw [show (c == a) = true from beq_iff_eq.mpr q]
      simp [q]
    · rw [show (c == a) = false from beq_eq_false_iff_ne.mpr q]
      simp [q]
  | cons u F ih =>
    obtain ⟨u1, u2⟩ := u
    rw [List.cons_append, List.lookup_cons, List.lookup_cons, ih]
    cases (c == u1) <;> rfl
theorem chs_erase : ∀ (L : List Nat) (j : Nat), (chs L).eraseIdx j = chs (L.eraseIdx j)
  | [], _ => rfl
  | c :: L, 0 => rfl
  | c :: L, j + 1 => by
    show W.d (.str (rowOf [c])) :: (chs L).eraseIdx j = W.d (.str (rowOf [c])) :: chs (L.eraseIdx j)
    rw [chs_erase L j]
/-- one sign more has its other -/
theorem draw1 (ns : List Int) (z3 z4 z5 z8 z9 z10 z11 z12 z13 z14 z15 z16 : Sl) {g : Nat} {F : List (Nat × Nat)} {a : Nat} {L : List Nat} (d : Dr) (rest : M) (hg : (dr d rest)[g]? = some (.dct (sgW F))) (g3 : 3 ≤ g) (hF : F.length < 900) (ha : F.lookup a = none) (hL : 0 < L.length) (hL2 : L.length ≤ 1000) :
    ∃ (d' : Dr) (rest' : M) (j : Nat) (hj : j < L.length), (dr d' rest')[g]? = some (.dct (sgW (F ++ [(a, L[j])]))) ∧ (∀ k, k ≠ g → 3 ≤ k → (dr d' rest')[k]? = (dr d rest)[k]?) ∧ (dr d' rest').length = (dr d rest).length ∧
      B_law_1 ⟨sl14 ns g z3 z4 z5 (.own (chs L)) (.v (.d (.str (rowOf [a])))) z8 z9 z10 z11 z12 z13 z14 z15 z16, dr d rest⟩ = .nx ⟨sl14 ns g z3 z4 z5 (.own (chs (L.eraseIdx j))) (.v (.d (.str (rowOf [a])))) z8 z9 z10 z11 z12 z13 z14 z15 z16, dr d' rest'⟩ := by
  have a0 := nx_lo (d := d) (n := (L.length : Int)) (by omega)
  have a1 := nx_hi (d := d) (n := (L.length : Int)) (by omega)
  obtain ⟨j, hj⟩ : ∃ j : Nat, nx d (L.length : Int) = (j : Int) := ⟨(nx d (L.length : Int)).toNat, by omega⟩
  have jl : j < L.length := by omega
  have hg' : (dr (st d (L.length : Int)) rest)[g]? = some (.dct (sgW F)) := (dr_hi g3).trans hg
  have lg := getElem?_lt hg'
  obtain ⟨rest', er⟩ := dr_set (d := st d (L.length : Int)) (rest := rest) (b := .dct (sgW (F ++ [(a, L[j])]))) g3
  refine ⟨st d (L.length : Int), rest', j, jl, ?_, fun k h1 h2 => ?_, ?_, ?_⟩
  · rw [← er]
    exact List.getElem?_set_self lg
  · rw [← er, List.getElem?_set_ne (Ne.symm h1)]
    exact dr_hi h2
  · rw [← er, List.length_set]
    exact drl
  · have hx : (chs L)[j]? = some (.d (.str (rowOf [L[j]]))) := by
      unfold chs
      rw [List.getElem?_map, List.getElem?_eq_getElem jl]
      rfl
    have hl : (chs L).length = L.length := by unfold chs; rw [List.length_map]
    have he := chs_erase L j
    have fe : frees (chs (L.eraseIdx j)) = true := chs_frees _
    have sl : (sgW F).length < 1000 := by unfold sgW; rw [List.length_map]; omega
    have pn := putD_sg (b := L[j]) ha
    have fL := chs_frees L
    unfold sl14 B_law_1
    simp_arith only [hl, nxt, show (0 : Int) < (L.length : Int) by omega, show (L.length : Int) < 1000000000 by omega, hj, hx, he, fe, fL, show (0 : Int) ≤ (j : Int) by omega, show (j : Int) ≤ 1000000 by omega, hg', sl, pn, er, y_dput]
def sA : List Nat := [97, 98, 99, 100, 101, 102, 103, 104, 105, 106, 107, 108, 109, 110, 111, 112, 113, 114, 115, 116, 117, 118, 119, 120, 121, 122]
def sB : List Nat := [33, 35, 36, 38, 40, 41, 42, 43, 45, 46, 47, 58, 59, 60, 61, 62, 63, 64, 91, 93, 94, 95, 123, 124, 125, 48, 49, 50, 51, 52, 53, 54, 55, 56, 57, 65, 66, 67, 68, 69, 70, 71, 72, 73, 74, 75, 76, 77, 78, 79, 80, 81, 82, 83, 84, 85, 86, 87, 88, 89, 90]
theorem sA_eq : FE.signs (Str.ofString "abcdefghijklmnopqrstuvwxyz") = chs sA := by
  have e : (Str.ofString "abcdefghijklmnopqrstuvwxyz").cps.toList = sA := by decide +kernel
  unfold FE.signs
  rw [e]
  rfl
theorem sB_eq : FE.signs (Str.ofString "!#$&()*+-./:;<=>?\x40[]^_{|}0123456789ABCDEFGHIJKLMNOPQRSTUVWXYZ") = chs sB := by
  have e : (Str.ofString "!#$&()*+-./:;<=>?\x40[]^_{|}0123456789ABCDEFGHIJKLMNOPQRSTUVWXYZ").cps.toList = sB := by decide +kernel
  unfold FE.signs
  rw [e]
  rfl
theorem zip_look {s p : List Nat} (hl : s.length = p.length) (hn : s.Nodup) : (∀ c ∉ s, (s.zip p).lookup c = none) ∧ ∀ (i : Nat) (h1 : i < s.length) (h2 : i < p.length), (s.zip p).lookup s[i] = some p[i] := by
  induction s generalizing p with
  | nil => exact ⟨fun _ _ => rfl, fun i h => by cases h⟩
  | cons a s ih =>
    cases p with
    | nil => cases hl
    | cons b p =>
      obtain ⟨n1, n2⟩ := List.nodup_cons.mp hn
      obtain ⟨h1, h2⟩ := ih (by simpa using hl) n2
      refine ⟨fun c hc => ?_, fun i q1 q2 => ?_⟩
      · rw [List.zip_cons_cons, List.lookup_cons, show (c == a) = false from beq_eq_false_iff_ne.mpr fun z => hc (by rw [z]; exact List.mem_cons_self)]
        exact h1 c fun z => hc (List.mem_cons_of_mem _ z)
      · cases i with
        | zero =>
          rw [List.zip_cons_cons, List.lookup_cons]
          simp
        | succ i =>
          have q1' : i < s.length := by simpa using q1
          rw [List.zip_cons_cons, List.lookup_cons]
          show (match (s[i] == a) with | true => some b | false => (s.zip p).lookup s[i]) = _
          rw [show (s[i] == a) = false from beq_eq_false_iff_ne.mpr fun z => n1 (by rw [← z]; exact List.getElem_mem q1')]
          exact h2 i q1' (by simpa using q2)
theorem lookup_two {F G : List (Nat × Nat)} {c : Nat} : (F ++ G).lookup c = (match F.lookup c with | some x => some x | none => G.lookup c) := by
  induction F with
  | nil => rfl
  | cons u F ih =>
    obtain ⟨u1, u2⟩ := u
    rw [List.cons_append, List.lookup_cons, List.lookup_cons, ih]
    cases (c == u1) <;> rfl
theorem erase_perm : ∀ (L : List Nat) (j : Nat) (hj : j < L.length), ([L[j]] ++ L.eraseIdx j).Perm L
  | c :: L, 0, _ => .refl _
  | c :: L, j + 1, hj => by
    have hj' : j < L.length := by simpa using hj
    have ih := erase_perm L j hj'
    show (L[j] :: c :: L.eraseIdx j).Perm (c :: L)
    exact (List.Perm.swap c L[j] _).trans (ih.cons c)
/-- all signs of a text have their others -/
theorem draws (ns : List Int) (z3 z4 z5 z8 z9 z10 z11 z12 z13 z14 z15 z16 : Sl) {g : Nat} {F : List (Nat × Nat)} {s : List Nat} (hn : s.Nodup) (hF : ∀ c ∈ s, F.lookup c = none) (ls : s.length ≤ 100) (lF : F.length ≤ 100) (g3 : 3 ≤ g) (z7 : Sl) (hz : okZ z7) (d : Dr) (rest : M) (hg : (dr d rest)[g]? = some (.dct (sgW F))) :
    ∃ (d' : Dr) (rest' : M) (p : List Nat) (z6' z7' : Sl), okZ z7' ∧ p.Perm s ∧ (dr d' rest')[g]? = some (.dct (sgW (F ++ s.zip p))) ∧ (∀ k, k ≠ g → 3 ≤ k → (dr d' rest')[k]? = (dr d rest)[k]?) ∧ (dr d' rest').length = (dr d rest).length ∧
      loopF (gN 7) B_law_1 (chs s) ⟨sl14 ns g z3 z4 z5 (.own (chs s)) z7 z8 z9 z10 z11 z12 z13 z14 z15 z16, dr d rest⟩ = .nx ⟨sl14 ns g z3 z4 z5 z6' z7' z8 z9 z10 z11 z12 z13 z14 z15 z16, dr d' rest'⟩ := by
  have lc : (chs s).length = s.length := by unfold chs; rw [List.length_map]
  obtain ⟨s', el, d', rest', ch, L, z7', hz', hc, hp, hg', hf, hl, rfl⟩ := loopF_inv (g := gN 7) (b := B_law_1) (chs s) (fun i x => ∃ (d' : Dr) (rest' : M) (ch L : List Nat) (z7' : Sl), okZ z7' ∧ ch.length = i ∧ (ch ++ L).Perm s ∧ (dr d' rest')[g]? = some (.dct (sgW (F ++ (s.take i).zip ch))) ∧ (∀ k, k ≠ g → 3 ≤ k → (dr d' rest')[k]? = (dr d rest)[k]?) ∧ (dr d' rest').length = (dr d rest).length ∧
      x = ⟨sl14 ns g z3 z4 z5 (.own (chs L)) z7' z8 z9 z10 z11 z12 z13 z14 z15 z16, dr d' rest'⟩) (fun i hi x ⟨d1, rest1, ch, L, z7', _, hc, hp, hg1, hf, hl, hx⟩ => by
    subst hx
    have hi' : i < s.length := by rw [lc] at hi; exact hi
    have hpl := hp.length_eq
    rw [List.length_append] at hpl
    have nl : (F ++ (s.take i).zip ch).lookup s[i] = none := by
      rw [lookup_two, hF _ (List.getElem_mem hi')]
      have lt : (s.take i).length = ch.length := by rw [List.length_take, hc]; omega
      refine (zip_look lt (hn.sublist (List.take_sublist _ _))).1 _ fun hm => ?_
      obtain ⟨j, hj, ej⟩ := List.mem_iff_getElem.mp hm
      rw [List.length_take] at hj
      rw [List.getElem_take] at ej
      have := (List.getElem_inj hn).mp ej
      omega
    have lz : (F ++ (s.take i).zip ch).length < 900 := by
      rw [List.length_append, List.length_zip, List.length_take]
      omega
    obtain ⟨d2, rest2, j, hj, hg2, f2, l2, e2⟩ := draw1 ns z3 z4 z5 z8 z9 z10 z11 z12 z13 z14 z15 z16 (L := L) d1 rest1 hg1 g3 lz nl (by omega) (by omega)
    have gx : (chs s)[i] = .d (.str (rowOf [s[i]])) := List.getElem_map (f := fun c => W.d (.str (rowOf [c])))
    rw [gx]
    refine ⟨⟨sl14 ns g z3 z4 z5 (.own (chs L)) (.v (.d (.str (rowOf [s[i]])))) z8 z9 z10 z11 z12 z13 z14 z15 z16, dr d1 rest1⟩, _, y_gN z_d, e2, d2, rest2, ch ++ [L[j]], L.eraseIdx j, _, .inr ⟨_, rfl⟩, by rw [List.length_append, hc]; rfl, ?_, ?_, fun k h1 h2 => (f2 k h1 h2).trans (hf k h1 h2), l2.trans hl, rfl⟩
    · rw [List.append_assoc]
      exact (List.Perm.append_left ch (erase_perm L j hj)).trans hp
    · have tk : (s.take (i + 1)).zip (ch ++ [L[j]]) = (s.take i).zip ch ++ [(s[i], L[j])] := by
        rw [List.take_succ, List.getElem?_eq_getElem hi']
        rw [List.zip_append (by rw [List.length_take, hc]; omega)]
        rfl
      rw [tk, ← List.append_assoc]
      exact hg2) ⟨sl14 ns g z3 z4 z5 (.own (chs s)) z7 z8 z9 z10 z11 z12 z13 z14 z15 z16, dr d rest⟩ ⟨d, rest, [], s, z7, hz, rfl, .refl _, by simpa using hg, fun _ _ _ => rfl, rfl, rfl⟩
  rw [lc] at hc hg'
  rw [List.take_length] at hg'
  have hL : L = [] := by
    have := hp.length_eq
    rw [List.length_append, hc] at this
    exact List.eq_nil_of_length_eq_zero (by omega)
  subst hL
  rw [List.append_nil] at hp
  exact ⟨d', rest', ch, _, z7', hz', hp, hg', hf, hl, el⟩
/-! what the signs' dict is -/
theorem perm_get {s p : List Nat} (hp : p.Perm s) (hs : s.Nodup) {c : Nat} (hc : c ∈ s) : ∃ (i : Nat) (h1 : i < s.length) (h2 : i < p.length), s[i] = c ∧ (s.zip p).lookup c = some p[i] := by
  obtain ⟨i, hi, rfl⟩ := List.mem_iff_getElem.mp hc
  have hl := hp.length_eq
  exact ⟨i, hi, by omega, rfl, (zip_look hl.symm hs).2 i hi (by omega)⟩
theorem sgn_fn {p q : List Nat} (hp : p.Perm sA) (hq : q.Perm sB) : Sgn (fn (sA.zip p ++ sB.zip q)) ∧ fn (sA.zip p ++ sB.zip q) 10 = 10 := by
  have nA : sA.Nodup := by decide
  have nB : sB.Nodup := by decide
  have dis : ∀ c ∈ sA, c ∉ sB := by decide
  have lA : ∀ c ∈ sA, letter c = true := by decide
  have lB : ∀ c ∈ sB, letter c = false := by decide
  have oA : ∀ c ∈ sA, signOk c = true := by decide
  have oB : ∀ c ∈ sB, signOk c = true := by decide
  have np : p.Nodup := hp.symm.nodup nA
  have nq : q.Nodup := hq.symm.nodup nB
  have noA : ∀ c ∉ sA, (sA.zip p).lookup c = none := (zip_look hp.length_eq.symm nA).1
  have noB : ∀ c ∉ sB, (sB.zip q).lookup c = none := (zip_look hq.length_eq.symm nB).1
  have fa : ∀ c ∈ sA, ∃ (i : Nat) (h1 : i < sA.length) (h2 : i < p.length), sA[i] = c ∧ fn (sA.zip p ++ sB.zip q) c = p[i] := fun c hc => by
    obtain ⟨i, h1, h2, e1, e2⟩ := perm_get hp nA hc
    refine ⟨i, h1, h2, e1, ?_⟩
    unfold fn
    rw [lookup_two, e2]
    rfl
  have fb : ∀ c ∈ sB, ∃ (i : Nat) (h1 : i < sB.length) (h2 : i < q.length), sB[i] = c ∧ fn (sA.zip p ++ sB.zip q) c = q[i] := fun c hc => by
    obtain ⟨i, h1, h2, e1, e2⟩ := perm_get hq nB hc
    refine ⟨i, h1, h2, e1, ?_⟩
    unfold fn
    rw [lookup_two, noA c (fun z => dis c z hc), e2]
    rfl
  have fo : ∀ c, c ∉ sA → c ∉ sB → fn (sA.zip p ++ sB.zip q) c = c := fun c h1 h2 => by
    unfold fn
    rw [lookup_two, noA c h1, noB c h2]
    rfl
  generalize fn (sA.zip p ++ sB.zip q) = f at fa fb fo ⊢
  have inA : ∀ c ∈ sA, f c ∈ sA := fun c hc => by
    obtain ⟨i, _, h2, _, e⟩ := fa c hc
    rw [e]
    exact hp.subset (List.getElem_mem h2)
  have inB : ∀ c ∈ sB, f c ∈ sB := fun c hc => by
    obtain ⟨i, _, h2, _, e⟩ := fb c hc
    rw [e]
    exact hq.subset (List.getElem_mem h2)
  refine ⟨⟨fun a b e => ?_, fun c => ?_, fun c => ?_⟩, fo 10 (by decide) (by decide)⟩
  · by_cases a1 : a ∈ sA
    · by_cases b1 : b ∈ sA
      · obtain ⟨i, h1, h2, e1, e2⟩ := fa a a1
        obtain ⟨j, h3, h4, e3, e4⟩ := fa b b1
        rw [e2, e4] at e
        have := (List.getElem_inj np).mp e
        subst this
        rw [← e1, ← e3]
      · have ha := inA a a1
        by_cases b2 : b ∈ sB
        · have hb := inB b b2
          rw [e] at ha
          exact absurd hb (dis _ ha)
        · rw [e, fo b b1 b2] at ha
          exact absurd ha b1
    · by_cases a2 : a ∈ sB
      · have ha := inB a a2
        by_cases b1 : b ∈ sA
        · have hb := inA b b1
          rw [← e] at hb
          exact absurd ha (dis _ hb)
        · by_cases b2 : b ∈ sB
          · obtain ⟨i, h1, h2, e1, e2⟩ := fb a a2
            obtain ⟨j, h3, h4, e3, e4⟩ := fb b b2
            rw [e2, e4] at e
            have := (List.getElem_inj nq).mp e
            subst this
            rw [← e1, ← e3]
          · rw [e, fo b b1 b2] at ha
            exact absurd ha b2
      · have ea := fo a a1 a2
        by_cases b1 : b ∈ sA
        · have hb := inA b b1
          rw [← e, ea] at hb
          exact absurd hb a1
        · by_cases b2 : b ∈ sB
          · have hb := inB b b2
            rw [← e, ea] at hb
            exact absurd hb a2
          · rw [ea, fo b b1 b2] at e
            exact e
  · by_cases c1 : c ∈ sA
    · rw [lA _ (inA c c1), lA c c1]
    · by_cases c2 : c ∈ sB
      · rw [lB _ (inB c c2), lB c c2]
      · rw [fo c c1 c2]
  · by_cases c1 : c ∈ sA
    · rw [oA _ (inA c c1), oA c c1]
    · by_cases c2 : c ∈ sB
      · rw [oB _ (inB c c2), oB c c2]
      · rw [fo c c1 c2]
theorem mapK_ok {f : Nat → Nat} (h : Sgn f) {k : Ky} (hk : k.ok) : (mapK f k).ok := by
  cases k with
  | put c => exact (h.ok c).trans hk
  | find w =>
    refine ⟨by rw [List.length_map]; exact hk.1, by rw [List.length_map]; exact hk.2.1, fun c hc => ?_⟩
    obtain ⟨b, hb, rfl⟩ := List.mem_map.mp hc
    exact (h.ok b).trans (hk.2.2 b hb)
  | play n j => exact hk
  | till n => exact hk
  | bare b => trivial
theorem mapS_ok {f : Nat → Nat} {R : List (List Nat)} (h : Sgn f) (hR : TextOk R) : TextOk (R.map (List.map f)) := by
  refine ⟨fun z => hR.ne (List.map_eq_nil_iff.mp z), by rw [List.length_map]; exact hR.many, fun cs hc => ?_, fun cs hc c hcc => ?_⟩
  · obtain ⟨ds, hd, rfl⟩ := List.mem_map.mp hc
    rw [List.length_map]
    exact hR.len ds hd
  · obtain ⟨ds, hd, rfl⟩ := List.mem_map.mp hc
    obtain ⟨b, hb, rfl⟩ := List.mem_map.mp hcc
    exact (h.ok b).trans (hR.sg ds hd b hb)
theorem keys_turn {sl : List Sl} {i : Nat} {m : M} {e : EF} {f : Nat → Nat} (hsl : sl[i]? = some .no) : ∀ (ks : List Ky), (∀ k ∈ ks, e ⟨sl.set i (.v (.d k.data)), m⟩ = .ok (.d (mapK f k).data) ⟨sl.set i (.v (.d k.data)), m⟩) →
    loopC i cT e ((ks.map Ky.data).map W.d) ⟨sl, m⟩ = .ok (((ks.map (mapK f)).map Ky.data).map W.d) ⟨sl, m⟩
  | [], _ => rfl
  | k :: ks, he => by
    have hset : sl.set i .no = sl := set_no hsl
    have e1 := he k List.mem_cons_self
    have ih := keys_turn hsl ks fun q hq => he q (List.mem_cons_of_mem _ hq)
    rw [List.map_cons, List.map_cons]
    simp only [loopC, cT, e1, z_d, if_true, List.set_set, hset, ih]
    rfl
theorem keys_turnL {sl : List Sl} {i j : Nat} {m : M} {e : EF} {f : Nat → Nat} (hsl : sl[i]? = some .no) {ks : List Ky} (hj : m[j]? = some (.lst (ks.map fun k => .d k.data))) (he : ∀ k ∈ ks, e ⟨sl.set i (.v (.d k.data)), m⟩ = .ok (.d (mapK f k).data) ⟨sl.set i (.v (.d k.data)), m⟩) :
    loopCL (.ref j) ks.length i cT e ks.length ⟨sl, m⟩ = .ok (((ks.map (mapK f)).map Ky.data).map W.d) ⟨sl, m⟩ := by
  have hr : readL ⟨sl, m⟩ (.ref j) = some (ks.map fun k => W.d k.data) := by simp only [readL, hj]
  have q := loopCL_pure (c := cT) (e := e) (p := fun _ => true) (f := fun x => match e ⟨sl.set i (.v x), m⟩ with | .ok v _ => v | _ => .d .none) hsl hr (fun x hx => ?_) (fun x hx _ => ?_)
  · rw [List.length_map] at q
    rw [q, List.filter_eq_self.mpr (fun _ _ => rfl), List.map_map, List.map_map, List.map_map]
    congr 1
    refine List.map_congr_left fun k hk => ?_
    simp only [Function.comp_apply, he k hk]
  · obtain ⟨k, _, rfl⟩ := List.mem_map.mp hx
    exact ⟨z_d, rfl⟩
  · obtain ⟨k, hk, rfl⟩ := List.mem_map.mp hx
    simp only [he k hk]
    exact ⟨trivial, z_d⟩
theorem keys_okD {ks : List Ky} (h : ∀ k ∈ ks, Ky.ok k) : KR.okD (.list (ks.map Ky.data)) := okD_list fun d hd => by
  obtain ⟨k, hk, rfl⟩ := List.mem_map.mp hd
  exact ⟨(Ky.okD (h k hk)).1, Nat.le_trans (Ky.okD (h k hk)).2 (by decide : 1 ≤ 10)⟩
/-- what a box holds is the same as a list of data -/
theorem box_eq {sl : List Sl} {m : M} {j : Nat} {ks : List Ky} (hj : m[j]? = some (.lst (ks.map fun k => .d k.data))) (ok : ∀ k ∈ ks, Ky.ok k) : oEqD true (.ref j) (.d (.list (ks.map Ky.data))) ⟨sl, m⟩ = .ok (.d (.bool false)) ⟨sl, m⟩ := by
  have e0 : (ks.map fun k => W.d k.data) = (ks.map Ky.data).map W.d := by rw [List.map_map]; rfl
  have t1 : toD ⟨sl, m⟩ (.ref j) = some (.list (ks.map Ky.data)) := by
    simp only [toD, readL, hj, e0, allD_map, Option.map_some]
  have t2 : toD ⟨sl, m⟩ (.d (.list (ks.map Ky.data))) = some (.list (ks.map Ky.data)) := rfl
  have k1 := keys_okD ok
  have k2 : okDb (.list (ks.map Ky.data)) = true := Bool.and_eq_true_iff.mpr k1
  unfold oEqD
  rw [t1, t2]
  simp only [k2, and_self, if_true, eqv_yes k1 k1 rfl]
  rfl
structure Ok14 (m : M) (g e e' : Nat) (F : List (Nat × Nat)) (n : Nat) : Prop where
  ex : ∃ t p dd t' p' dd' σ T, Two m e t p dd e' t' p' dd' σ (mapS (fn F) σ) T (mapT (fn F) T) n ∧ g ∉ [e, t, p, e', t', p'] ∧ e ≠ e' ∧ e ≠ t' ∧ e ≠ p' ∧ p ≠ e' ∧ p ≠ t' ∧ p ≠ p'
  dct : m[g]? = some (.dct (sgW F))
  g3 : 3 ≤ g
theorem mapT_ok {f : Nat → Nat} (h : Sgn f) {T : Tps} (ok : ∀ y ∈ T, ∀ k ∈ y.2, Ky.ok k) : ∀ y ∈ mapT f T, ∀ k ∈ y.2, Ky.ok k := fun y hy k hk => by
  obtain ⟨z, hz, rfl⟩ := List.mem_map.mp hy
  obtain ⟨q, hq, rfl⟩ := List.mem_map.mp hk
  exact mapK_ok h (ok z hz q hq)
/-- the strokes of a player are keys -/
theorem strokes_ok {T : Tps} (hT : ∀ y ∈ T, ∀ k ∈ y.2, Ky.ok k) : ∀ (l d : Nat) (k : Ky), k.ok → ∀ s b S, (∀ q ∈ s.ks, Ky.ok q ∧ q.single) → keyP T l d k s = .ok b S → ∀ q ∈ S.ks, Ky.ok q ∧ q.single := by
  intro l
  induction l with
  | zero => intro d k _ s b S _ e; cases e
  | succ l ih =>
    intro d k hk s b S hs e
    have all : ∀ (ks : List Ky), (∀ k ∈ ks, Ky.ok k) → ∀ s b S, (∀ q ∈ s.ks, Ky.ok q ∧ q.single) → allP (keyP T l (d + 1)) ks s = .ok b S → ∀ q ∈ S.ks, Ky.ok q ∧ q.single := fun ks => by
      induction ks with
      | nil =>
        intro _ s b S hs e
        cases e
        exact hs
      | cons k ks ih2 =>
        intro ok s b S hs e
        unfold allP at e
        cases e1 : keyP T l (d + 1) k s with
        | no => rw [e1] at e; cases e
        | long => rw [e1] at e; cases e
        | ok b1 S1 =>
          rw [e1] at e
          have h1 := ih (d + 1) k (ok k List.mem_cons_self) s b1 S1 hs e1
          cases b1 with
          | false =>
            cases e
            exact h1
          | true => exact ih2 (fun q hq => ok q (List.mem_cons_of_mem _ hq)) S1 b S h1 e
    have once : ∀ (ks : List Ky), (∀ k ∈ ks, Ky.ok k) → ∀ s b S, (∀ q ∈ s.ks, Ky.ok q ∧ q.single) → onceP (keyP T l (d + 1)) ks s = .ok b S → ∀ q ∈ S.ks, Ky.ok q ∧ q.single := fun ks ok s b S hs e => by
      unfold onceP tickP at e
      split at e
      · exact all ks ok ⟨s.sh, s.n + 1, s.ks⟩ b S hs e
      · cases e
    unfold keyP tickP at e
    split at e
    · unfold doneP at e
      have single : ∀ {s : PSt}, (∀ q ∈ s.ks, Ky.ok q ∧ q.single) → k.single → (match s.sh.do1 k with
          | some τ => PR.ok true ⟨τ, s.n, s.ks ++ [k]⟩
          | none => .ok false s) = .ok b S → ∀ q ∈ S.ks, Ky.ok q ∧ q.single := fun {s} hs hk1 e => by
        cases hd : s.sh.do1 k with
        | none =>
          rw [hd] at e
          cases e
          exact hs
        | some τ =>
          rw [hd] at e
          cases e
          intro q hq
          rcases List.mem_append.mp hq with hq | hq
          · exact hs q hq
          · rw [List.mem_singleton.mp hq]
            exact ⟨hk, hk1⟩
      cases k with
      | put c => exact single (s := ⟨s.sh, s.n + 1, s.ks⟩) hs trivial e
      | find w => exact single (s := ⟨s.sh, s.n + 1, s.ks⟩) hs trivial e
      | bare c => exact single (s := ⟨s.sh, s.n + 1, s.ks⟩) hs trivial e
      | play n j =>
        simp only at e
        split at e
        · have plays : ∀ (j : Nat) s b S, (∀ q ∈ s.ks, Ky.ok q ∧ q.single) → playsP (onceP (keyP T l (d + 1)) (tapeOf T n)) j s = .ok b S → ∀ q ∈ S.ks, Ky.ok q ∧ q.single := fun j => by
            induction j with
            | zero =>
              intro s b S hs e
              cases e
              exact hs
            | succ j ih2 =>
              intro s b S hs e
              unfold playsP at e
              cases e1 : onceP (keyP T l (d + 1)) (tapeOf T n) s with
              | no => rw [e1] at e; cases e
              | long => rw [e1] at e; cases e
              | ok b1 S1 =>
                rw [e1] at e
                have h1 := once _ (tapeOf_ok hT n) s b1 S1 hs e1
                cases b1 with
                | false =>
                  cases e
                  exact h1
                | true => exact ih2 S1 b S h1 e
          exact plays j ⟨s.sh, s.n + 1, s.ks⟩ b S hs e
        · cases e
          exact hs
      | till n =>
        simp only at e
        split at e
        · have tills : ∀ (j : Nat) s b S, (∀ q ∈ s.ks, Ky.ok q ∧ q.single) → tillP (onceP (keyP T l (d + 1)) (tapeOf T n)) j s = .ok b S → ∀ q ∈ S.ks, Ky.ok q ∧ q.single := fun j => by
            induction j with
            | zero =>
              intro s b S hs e
              cases e
            | succ j ih2 =>
              intro s b S hs e
              unfold tillP at e
              cases e1 : onceP (keyP T l (d + 1)) (tapeOf T n) s with
              | no => rw [e1] at e; cases e
              | long => rw [e1] at e; cases e
              | ok b1 S1 =>
                rw [e1] at e
                have h1 := once _ (tapeOf_ok hT n) s b1 S1 hs e1
                cases b1 with
                | false =>
                  cases e
                  exact h1
                | true => exact ih2 S1 b S h1 e
          exact tills 1000 ⟨s.sh, s.n + 1, s.ks⟩ b S hs e
        · cases e
          exact hs
    · cases e
theorem Two.keep {m m' : M} {e t p d e' t' p' d' n : Nat} {σ σ' : Sht} {T T' : Tps} (h : Two m e t p d e' t' p' d' σ σ' T T' n) (hm : ∀ k < m.length, m'[k]? = m[k]?) (hl : m.length ≤ m'.length) : Two m' e t p d e' t' p' d' σ σ' T T' n := h.of (fun k _ h2 => hm k h2) hl
def K14 : SF := (sIf (cB (eBin (oEq false) (eV 13) (eC (.str ""))))
      (sSeq (sSet 15 (eF (eCompL (eLv (eMet "Editor" "hand" 2 F_Editor_hand (eV 10) (aCons (eV 12) aNil))) 16 cT B_law_8)))
      (sIf (cOr (cB (eBin (oEqD true) (eMet "Editor" "hand" 2 F_Editor_hand (eV 11) (aCons (eCall 2 F_law_turned (aCons (eV 2) (aCons (eV 12) aNil))) aNil)) (eV 15))) (cB (eBin (oEq true) (eMet "Editor" "press" 2 F_Editor_press (eV 10) (aCons (eV 12) aNil)) (eMet "Editor" "press" 2 F_Editor_press (eV 11) (aCons (eCall 2 F_law_turned (aCons (eV 2) (aCons (eV 12) aNil))) aNil)))))
        (sRet (eC (.bool false)))
        sNx))
      sNx)
def T14 : SF := (sSeq (sSet 14 (eF (eComp (eIt readT (eTup (aCons (eMet "Editor" "text" 1 F_Editor_text (eV 10) aNil) (aCons (eMet "Editor" "clip" 1 F_Editor_clip (eV 10) aNil) aNil)))) 16 cT B_law_10)))
    (sIf (cOr (cB (eBin (oEqD true) (eV 14) (eF (eLst (aCons (eMet "Editor" "text" 1 F_Editor_text (eV 11) aNil) (aCons (eMet "Editor" "clip" 1 F_Editor_clip (eV 11) aNil) aNil)))))) (cB (eBin (oEqD true) (eMet "Editor" "place" 1 F_Editor_place (eV 10) aNil) (eMet "Editor" "place" 1 F_Editor_place (eV 11) aNil))))
      (sRet (eC (.bool false)))
      sNx))
theorem B11_14 : B_law_11 = sSeq (sSet 12 (eCall 1 F_law_key (aCons (eV 1) aNil))) (sSeq (sSet 13 (eKind 0 "law" "law.<locals>.<lambda>" B_law_6)) (sSeq (sIf (cB (eBin (oEq true) (eKind 0 "law" "law.<locals>.<lambda>" B_law_7) (eV 13)))
      (sRet (eC (.bool false)))
      sNx) (sSeq K14 T14))) := (rfl)
/-- the text and the clip, told by other signs -/
theorem T14_ok (ns : List Int) {g e e' n : Nat} (z3 z4 z5 z6 z7 z8 z9 z12 z13 z14 z15 : Sl) {m : M} {F : List (Nat × Nat)} (h10 : fn F 10 = 10) (hS : Sgn (fn F)) (h : Ok14 m g e e' F n) (hz : okZ z7) :
    ∃ z14', T14 ⟨sl14 ns g z3 z4 z5 z6 z7 z8 z9 (.v (.ref e)) (.v (.ref e')) z12 z13 z14 z15 .no, m⟩ = .nx ⟨sl14 ns g z3 z4 z5 z6 z7 z8 z9 (.v (.ref e)) (.v (.ref e')) z12 z13 z14' z15 .no, m⟩ := by
  obtain ⟨t, p, dd, t', p', dd', σ, T, W, _, _⟩ := h.ex
  obtain ⟨s, fu, hi⟩ := W.a.ins
  obtain ⟨s', fu', hi'⟩ := W.b.ins
  have e1 := W.a.text
  have e2 := W.a.clip
  have e3 := W.b.text
  have e4 := W.b.clip
  have e5 := W.a.place
  have e6 := W.b.place
  have tt : rowOf ((txt σ.rows).cps.toList.map (fn F)) = txt (mapS (fn F) σ).rows := txt_turn h10 σ.rows
  have th : rowOf ((rowOf σ.held).cps.toList.map (fn F)) = rowOf (mapS (fn F) σ).held := by
    have : (rowOf σ.held).cps.toList = σ.held := by simp [rowOf]
    rw [this]
    rfl
  have lt := txt_len W.a.ok.many W.a.ok.len
  have lh : (rowOf σ.held).length ≤ 100000 := by
    rw [rowOf_len]
    have := W.a.ok.held
    omega
  have body : ∀ (z : Str), z.length ≤ 100000 → B_law_10 ⟨sl14 ns g z3 z4 z5 z6 z7 z8 z9 (.v (.ref e)) (.v (.ref e')) z12 z13 z14 z15 (.v (.d (.str z))), m⟩ = .ok (.d (.str (rowOf (z.cps.toList.map (fn F))))) ⟨sl14 ns g z3 z4 z5 z6 z7 z8 z9 (.v (.ref e)) (.v (.ref e')) z12 z13 z14 z15 (.v (.d (.str z))), m⟩ := fun z hzl => by
    have cp := row_turn (sl := sl14 ns g z3 z4 z5 z6 .no z8 z9 (.v (.ref e)) (.v (.ref e')) z12 z13 z14 z15 (.v (.d (.str z)))) (i := 7) (m := m) (e := B_law_9) (F := F) rfl (fun c => by
      have lk := look_fn F c
      have hg := h.dct
      unfold sl14 B_law_9
      simp_arith only [hg, lk]) z.cps.toList
    have es : FE.signs z = z.cps.toList.map fun c => FE.W.d (.str (rowOf [c])) := rfl
    have l2 : (z.cps.toList.map (fn F)).length ≤ 100000 := by
      rw [List.length_map]
      have : z.length = z.cps.toList.length := by
        show z.cps.size = _
        simp
      omega
    generalize z.cps.toList.map (fn F) = cs' at cp l2
    unfold sl14 at cp ⊢
    unfold B_law_10
    rcases hz with rfl | ⟨w, rfl⟩
    · simp_arith only [hzl, es, cp, stl_allD, join_row, join_fit l2]
    · simp_arith only [hzl, es, cp, stl_allD, join_row, join_fit l2]
  have b1 := body (txt σ.rows) (by omega)
  have b2 := body (rowOf σ.held) lh
  rw [tt] at b1
  rw [th] at b2
  have cp : loopC 16 cT B_law_10 [.d (.str (txt σ.rows)), .d (.str (rowOf σ.held))] ⟨sl14 ns g z3 z4 z5 z6 z7 z8 z9 (.v (.ref e)) (.v (.ref e')) z12 z13 z14 z15 .no, m⟩ = .ok [.d (.str (txt (mapS (fn F) σ).rows)), .d (.str (rowOf (mapS (fn F) σ).held))] ⟨sl14 ns g z3 z4 z5 z6 z7 z8 z9 (.v (.ref e)) (.v (.ref e')) z12 z13 z14 z15 .no, m⟩ := by
    unfold sl14 at b1 b2 ⊢
    simp only [loopC, cT, b1, b2, z_d, if_true, List.set_cons_succ, List.set_cons_zero]
  have k1 : KR.okD (.list [.str (txt (mapS (fn F) σ).rows), .str (rowOf (mapS (fn F) σ).held)]) := okD_list fun d hd => by
    simp only [List.mem_cons, List.not_mem_nil, or_false] at hd
    rcases hd with rfl | rfl
    · exact ⟨okD_str (strOk_txt W.b.sg.rows), Nat.zero_le _⟩
    · exact ⟨okD_str (row_strOk W.b.sg.held), Nat.zero_le _⟩
  have k2 : KR.okD (.tuple [.int σ.row, .int σ.col]) := okD_tup fun d hd => by
    simp only [List.mem_cons, List.not_mem_nil, or_false] at hd
    rcases hd with rfl | rfl <;> exact ⟨okD_int _, Nat.zero_le _⟩
  have q1 : ∀ s : FE.S, oEqD true (.d (.list [.str (txt (mapS (fn F) σ).rows), .str (rowOf (mapS (fn F) σ).held)])) (.d (.list [.str (txt (mapS (fn F) σ).rows), .str (rowOf (mapS (fn F) σ).held)])) s = .ok (.d (.bool false)) s := fun s => by
    rw [x_eqD k1 k1, eqv_yes k1 k1 rfl]
    rfl
  have q2 : ∀ s : FE.S, oEqD true (.d (.tuple [.int σ.row, .int σ.col])) (.d (.tuple [.int σ.row, .int σ.col])) s = .ok (.d (.bool false)) s := fun s => by
    rw [x_eqD k2 k2, eqv_yes k2 k2 rfl]
    rfl
  have er : (mapS (fn F) σ).row = σ.row := rfl
  have ec : (mapS (fn F) σ).col = σ.col := rfl
  rw [er, ec] at e6
  refine ⟨.v (.d (.list [.str (txt (mapS (fn F) σ).rows), .str (rowOf (mapS (fn F) σ).held)])), ?_⟩
  unfold sl14 at cp ⊢
  unfold T14
  simp_arith only [hi, hi', e1, e2, cp, e3, e4, q1, e5, e6, q2]
theorem kind_law6 {sl : List Sl} {d : Dr} {rest m' : M} {e : Nat} {k : Ky} {s t p fu dd : Nat} (g10 : sl[10]? = some (.v (.ref e))) (g12 : sl[12]? = some (.v (.d k.data)))
    (hi : (dr d rest)[e]? = some (.ins (Str.ofString "Editor") [(Str.ofString "sheet", .ref s), (Str.ofString "tapes", .ref t), (Str.ofString "past", .ref p), (Str.ofString "future", .ref fu), (Str.ofString "taping", .d .none), (Str.ofString "taped", .ref dd)])) :
    (∀ w, F_Editor_hand [.ref e, .d k.data] (dr d rest) = .ok w m' → eKind 0 (Str.ofString "law") (Str.ofString "law.<locals>.<lambda>") B_law_6 ⟨sl, dr d rest⟩ = .ok (.d (.str (Str.ofString ""))) ⟨sl, m'⟩) ∧
    (F_Editor_hand [.ref e, .d k.data] (dr d rest) = .er tooLong m' → eKind 0 (Str.ofString "law") (Str.ofString "law.<locals>.<lambda>") B_law_6 ⟨sl, dr d rest⟩ = .ok (.d (.str (Str.ofString "TooLong"))) ⟨sl, m'⟩) := by
  have h10 : (hide sl)[10]? = some (.v (.ref e)) := by
    unfold hide
    rw [List.getElem?_map, g10]
    rfl
  have h12 : (hide sl)[12]? = some (.v (.d k.data)) := by
    unfold hide
    rw [List.getElem?_map, g12]
    rfl
  refine ⟨fun w hw => ?_, fun hw => ?_⟩
  · refine kind_ok (w := w) (sl' := hide sl) rfl ?_
    unfold B_law_6
    generalize hide sl = sl' at h10 h12 ⊢
    simp_arith only [h10, h12, hi, hw]
  · refine kind_er rfl ?_
    unfold B_law_6
    generalize hide sl = sl' at h10 h12 ⊢
    simp_arith only [h10, h12, hi, hw, e_ret]
theorem kind_law7 {sl : List Sl} {d : Dr} {rest m' : M} {e g : Nat} {k : Ky} {F : List (Nat × Nat)} {s t p fu dd : Nat} (hk : k.ok) (g2 : sl[2]? = some (.v (.ref g))) (g11 : sl[11]? = some (.v (.ref e))) (g12 : sl[12]? = some (.v (.d k.data))) (hg : (dr d rest)[g]? = some (.dct (sgW F)))
    (hi : (dr d rest)[e]? = some (.ins (Str.ofString "Editor") [(Str.ofString "sheet", .ref s), (Str.ofString "tapes", .ref t), (Str.ofString "past", .ref p), (Str.ofString "future", .ref fu), (Str.ofString "taping", .d .none), (Str.ofString "taped", .ref dd)])) :
    (∀ w, F_Editor_hand [.ref e, .d (mapK (fn F) k).data] (dr d rest) = .ok w m' → eKind 0 (Str.ofString "law") (Str.ofString "law.<locals>.<lambda>") B_law_7 ⟨sl, dr d rest⟩ = .ok (.d (.str (Str.ofString ""))) ⟨sl, m'⟩) ∧
    (F_Editor_hand [.ref e, .d (mapK (fn F) k).data] (dr d rest) = .er tooLong m' → eKind 0 (Str.ofString "law") (Str.ofString "law.<locals>.<lambda>") B_law_7 ⟨sl, dr d rest⟩ = .ok (.d (.str (Str.ofString "TooLong"))) ⟨sl, m'⟩) := by
  have tn := turned_ok hg k hk
  have h2 : (hide sl)[2]? = some (.v (.ref g)) := by
    unfold hide
    rw [List.getElem?_map, g2]
    rfl
  have h11 : (hide sl)[11]? = some (.v (.ref e)) := by
    unfold hide
    rw [List.getElem?_map, g11]
    rfl
  have h12 : (hide sl)[12]? = some (.v (.d k.data)) := by
    unfold hide
    rw [List.getElem?_map, g12]
    rfl
  refine ⟨fun w hw => ?_, fun hw => ?_⟩
  · refine kind_ok (w := w) (sl' := hide sl) rfl ?_
    unfold B_law_7
    generalize hide sl = sl' at h2 h11 h12 ⊢
    simp_arith only [h2, h11, h12, hi, tn, hw]
  · refine kind_er rfl ?_
    unfold B_law_7
    generalize hide sl = sl' at h2 h11 h12 ⊢
    simp_arith only [h2, h11, h12, hi, tn, hw, e_ret]
theorem step14 (ns : List Int) {g e e' n : Nat} (z3 z4 z5 z6 z7 z8 z9 z12 z13 z14 z15 : Sl) {d : Dr} {rest : M} {F : List (Nat × Nat)} (h10 : fn F 10 = 10) (hS : Sgn (fn F)) (h : Ok14 (dr d rest) g e e' F n) (hn : n < 900) (hz : okZ z7) :
    ∃ d' rest' z12' z13' z14' z15', B_law_11 ⟨sl14 ns g z3 z4 z5 z6 z7 z8 z9 (.v (.ref e)) (.v (.ref e')) z12 z13 z14 z15 .no, dr d rest⟩ = .nx ⟨sl14 ns g z3 z4 z5 z6 z7 z8 z9 (.v (.ref e)) (.v (.ref e')) z12' z13' z14' z15' .no, dr d' rest'⟩ ∧ Ok14 (dr d' rest') g e e' F (n + 2) := by
  obtain ⟨d1, k, hk, ek⟩ := key_gen d rest
  obtain ⟨t, p, dd, t', p', dd', σ, T, W0, gn, ne⟩ := h.ex
  have W := W0.dr (d1 := d1)
  have g3 := h.g3
  have hg : (dr d1 rest)[g]? = some (.dct (sgW F)) := (dr_hi g3).trans h.dct
  have lg := getElem?_lt hg
  have lo := W.lt
  obtain ⟨s, fu, hi⟩ := W.a.ins
  have hk' := mapK_ok hS hk
  have hh := hand_l W.a k hk
  have eq : keyP (mapT (fn F) T) 22 0 (mapK (fn F) k) ⟨mapS (fn F) σ, 0, []⟩ = mapR (fn F) (keyP T 22 0 k ⟨σ, 0, []⟩) := eqv_key hS 22 0 k ⟨σ, 0, []⟩
  simp only [List.mem_cons, List.not_mem_nil, or_false, not_or] at gn
  rw [B11_14]
  cases ekp : keyP T 22 0 k ⟨σ, 0, []⟩ with
  | no =>
    rw [ekp] at hh
    exact hh.elim
  | long =>
    rw [ekp] at hh eq
    obtain ⟨m1, e1, f1, l1⟩ := hh
    obtain ⟨rest1, rfl⟩ := dr_of (m := m1) (f1 0 (by omega)) (f1 1 (by omega)) (f1 2 (by omega))
    have W1 := W.keep f1 l1
    have hg1 : (dr d1 rest1)[g]? = some (.dct (sgW F)) := (f1 g lg).trans hg
    have hh2 := hand_l W1.b (mapK (fn F) k) hk'
    rw [eq] at hh2
    obtain ⟨m2, e2, f2, l2⟩ := hh2
    have lo1 := W1.lt
    obtain ⟨rest2, rfl⟩ := dr_of (m := m2) (f2 0 (by omega)) (f2 1 (by omega)) (f2 2 (by omega))
    have W2 := W1.keep f2 l2
    have hg2 : (dr d1 rest2)[g]? = some (.dct (sgW F)) := (f2 g (getElem?_lt hg1)).trans hg1
    obtain ⟨s1, fu1, hi1⟩ := W1.b.ins
    have q1 := (kind_law6 (sl := sl14 ns g z3 z4 z5 z6 z7 z8 z9 (.v (.ref e)) (.v (.ref e')) (.v (.d k.data)) z13 z14 z15 .no) (e := e) (k := k) rfl rfl hi).2 e1
    have q2 := (kind_law7 (sl := sl14 ns g z3 z4 z5 z6 z7 z8 z9 (.v (.ref e)) (.v (.ref e')) (.v (.d k.data)) (.v (.d (.str (Str.ofString "TooLong")))) z14 z15 .no) hk rfl rfl rfl hg1 hi1).2 e2
    have O2 : Ok14 (dr d1 rest2) g e e' F n := ⟨⟨t, p, dd, t', p', dd', σ, T, W2, by simp; omega, ne⟩, hg2, g3⟩
    obtain ⟨z14', e3⟩ := T14_ok ns z3 z4 z5 z6 z7 z8 z9 (.v (.d k.data)) (.v (.d (.str (Str.ofString "TooLong")))) z14 z15 h10 hS O2 hz
    refine ⟨d1, rest2, .v (.d k.data), .v (.d (.str (Str.ofString "TooLong"))), z14', z15, ?_, ?_⟩
    · unfold sl14 at q1 q2 e3 ⊢
      unfold K14
      simp_arith only [ek, q1, q2, e3]
    · obtain ⟨t, p, dd, t', p', dd', σ, T, W, gn, ne⟩ := O2.ex
      exact ⟨⟨t, p, dd, t', p', dd', σ, T, ⟨W.a.of (fun _ _ _ _ => rfl) (Nat.le_refl _) (fun k hk => ⟨.inl hk, W.a.zl k hk⟩) (Nat.le_add_right _ _), W.b.of (fun _ _ _ _ => rfl) (Nat.le_refl _) (fun k hk => ⟨.inl hk, W.b.zl k hk⟩) (Nat.le_add_right _ _)⟩, gn, ne⟩, O2.dct, g3⟩
  | ok b S =>
    rw [ekp] at hh eq
    obtain ⟨m1, e1, _, f1, l1, ln⟩ := hh
    obtain ⟨rest1, rfl⟩ := dr_of (m := m1) (f1 0 (by omega)) (f1 1 (by omega)) (f1 2 (by omega))
    have W1 := W.keep f1 (by omega)
    have hg1 : (dr d1 rest1)[g]? = some (.dct (sgW F)) := (f1 g lg).trans hg
    have hh2 := hand_l W1.b (mapK (fn F) k) hk'
    rw [eq] at hh2
    obtain ⟨m2, e2, _, f2, l2, _⟩ := hh2
    have lo1 := W1.lt
    obtain ⟨rest2, rfl⟩ := dr_of (m := m2) (f2 0 (by omega)) (f2 1 (by omega)) (f2 2 (by omega))
    have W2 := W1.keep f2 (by omega)
    have hg2 : (dr d1 rest2)[g]? = some (.dct (sgW F)) := (f2 g (getElem?_lt hg1)).trans hg1
    obtain ⟨s1, fu1, hi1⟩ := W1.b.ins
    have q1 := (kind_law6 (sl := sl14 ns g z3 z4 z5 z6 z7 z8 z9 (.v (.ref e)) (.v (.ref e')) (.v (.d k.data)) z13 z14 z15 .no) (e := e) (k := k) rfl rfl hi).1 _ e1
    have q2 := (kind_law7 (sl := sl14 ns g z3 z4 z5 z6 z7 z8 z9 (.v (.ref e)) (.v (.ref e')) (.v (.d k.data)) (.v (.d (.str (Str.ofString "")))) z14 z15 .no) hk rfl rfl rfl hg1 hi1).1 _ e2
    -- hand once more, of both
    have hh3 := hand_l W2.a k hk
    rw [ekp] at hh3
    obtain ⟨m3, e3, b3, f3, l3, _⟩ := hh3
    have W3 := W2.keep f3 (by omega)
    have hg3 : m3[g]? = some (.dct (sgW F)) := (f3 g (getElem?_lt hg2)).trans hg2
    have sok : ∀ q ∈ S.ks, Ky.ok q := fun q hq => (strokes_ok W.a.tok 22 0 k hk ⟨σ, 0, []⟩ b S (fun _ h => by cases h) ekp q hq).1
    have sok' : ∀ q ∈ S.ks.map (mapK (fn F)), Ky.ok q := fun q hq => by
      obtain ⟨r, hr, rfl⟩ := List.mem_map.mp hq
      exact mapK_ok hS (sok r hr)
    have cp := keys_turnL (sl := sl14 ns g z3 z4 z5 z6 z7 z8 z9 (.v (.ref e)) (.v (.ref e')) (.v (.d k.data)) (.v (.d (.str (Str.ofString "")))) z14 z15 .no) (i := 16) (e := B_law_8) (f := fn F) rfl b3 (fun q hq => by
      have tn := turned_ok hg3 q (sok q hq)
      unfold sl14 B_law_8
      simp_arith only [tn])
    have rl3 : ∀ sl, readL ⟨sl, m3⟩ (.ref ((dr d1 rest2).length + 3)) = some (S.ks.map fun k => FE.W.d k.data) := fun sl => by simp only [readL, b3]
    have hh4 := hand_l W3.b (mapK (fn F) k) hk'
    rw [eq] at hh4
    obtain ⟨m4, e4, b4, f4, l4, _⟩ := hh4
    have W4 := W3.keep f4 (by omega)
    have hg4 : m4[g]? = some (.dct (sgW F)) := (f4 g (getElem?_lt hg3)).trans hg3
    have b4' : m4[m3.length + 3]? = some (.lst ((S.ks.map (mapK (fn F))).map fun k => .d k.data)) := b4
    have qe := fun sl => box_eq (sl := sl) b4' sok'
    -- both pressed
    have hp := press_l W4.a (by omega) k hk
    rw [ekp] at hp
    obtain ⟨m5, e5, E5, f5, l5⟩ := hp
    have W5 := W4.upd E5 (fun k h1 h2 _ h3 => f5 k h1 h2 h3) l5 (Nat.le_succ _)
    have hg5 : m5[g]? = some (.dct (sgW F)) := (f5 g (getElem?_lt hg4) (by omega) (by omega)).trans hg4
    have hp2 := press_l W5.b (by omega) (mapK (fn F) k) hk'
    rw [eq] at hp2
    obtain ⟨m6, e6, E6, f6, l6⟩ := hp2
    have hg6 : m6[g]? = some (.dct (sgW F)) := (f6 g (getElem?_lt hg5) (by omega) (by omega)).trans hg5
    have E5' : EdL m6 e t p dd S.sh T (n + 2) [e', t', p'] := W5.a.of (fun k _ h2 h3 => by
      simp only [List.mem_cons, List.not_mem_nil, or_false, not_or] at h3
      exact f6 k h2 h3.1 h3.2.2) l6 (fun k hk => ⟨.inl hk, Nat.lt_of_lt_of_le (W5.a.zl k hk) l6⟩) (Nat.le_succ _)
    have fr : ∀ k < 3, m6[k]? = (dr d1 rest2)[k]? := fun k hk => by
      rw [f6 k (by omega) (by omega) (by omega), f5 k (by omega) (by omega) (by omega), f4 k (by omega), f3 k (by omega)]
    obtain ⟨rest6, rfl⟩ := dr_of (m := m6) (fr 0 (by decide)) (fr 1 (by decide)) (fr 2 (by decide))
    have O6 : Ok14 (dr d1 rest6) g e e' F (n + 2) := ⟨⟨t, p, dd, t', p', dd', S.sh, T, ⟨E5', E6⟩, by simp; omega, ne⟩, hg6, g3⟩
    obtain ⟨z14', e7⟩ := T14_ok ns z3 z4 z5 z6 z7 z8 z9 (.v (.d k.data)) (.v (.d (.str (Str.ofString "")))) z14 (.v (.d (.list ((S.ks.map (mapK (fn F))).map Ky.data)))) h10 hS O6 hz
    refine ⟨d1, rest6, .v (.d k.data), .v (.d (.str (Str.ofString ""))), z14', .v (.d (.list ((S.ks.map (mapK (fn F))).map Ky.data))), ?_, O6⟩
    have tn3 := turned_ok hg3 k hk
    have tn5 := turned_ok hg5 k hk
    obtain ⟨s2, fu2, hi2⟩ := W2.a.ins
    obtain ⟨s3, fu3, hi3⟩ := W3.b.ins
    obtain ⟨s4, fu4, hi4⟩ := W4.a.ins
    obtain ⟨s5, fu5, hi5⟩ := W5.b.ins
    have lk : S.ks.length ≤ 100000 := by omega
    unfold sl14 at q1 q2 cp e7 ⊢
    unfold K14
    simp_arith only [ek, q1, q2, hi2, e3, rl3, lk, cp, hi3, tn3, e4, qe, hi4, e5, hi5, tn5, e6, e7]
theorem putT_map {f : Nat → Nat} {x : Str} {ks : List Ky} {T : Tps} : putT x (ks.map (mapK f)) (mapT f T) = mapT f (putT x ks T) := by
  have e : ((mapT f T).lookup x).isSome = (T.lookup x).isSome := by
    unfold mapT
    induction T with
    | nil => rfl
    | cons y T ih =>
      obtain ⟨y1, y2⟩ := y
      rw [List.map_cons, List.lookup_cons, List.lookup_cons]
      cases (x == y1) with
      | true => rfl
      | false => exact ih
  unfold putT
  rw [e]
  split
  · unfold mapT
    rw [List.map_map, List.map_map]
    refine List.map_congr_left fun y _ => ?_
    simp only [Function.comp_apply]
    split <;> rfl
  · unfold mapT
    rw [List.map_append]
    rfl
theorem tapes14 (ns : List Int) {g e e' t p dd t' p' dd' q : Nat} (z3 z4 z5 z6 z7 z8 z13 z14 z15 : Sl) {m : M} {F : List (Nat × Nat)} {σ σ' : Sht} {U : Tps} (hS : Sgn (fn F)) (h : Two m e t p dd e' t' p' dd' σ σ' [] [] 0) (hg : m[g]? = some (.dct (sgW F))) (hq : m[q]? = some (.dct (tapW U))) (hU : Tapes U 8) (gt : g ≠ t ∧ g ≠ t') (qt : q ≠ t ∧ q ≠ t') :
    ∃ m' z4', loopF (gN 4) B_law_5 (((U.map (·.1)).map PyData.str).map W.d) ⟨sl14 ns g z3 z4 z5 z6 z7 z8 (.v (.ref q)) (.v (.ref e)) (.v (.ref e')) .no z13 z14 z15 .no, m⟩ = .nx ⟨sl14 ns g z3 z4' z5 z6 z7 z8 (.v (.ref q)) (.v (.ref e)) (.v (.ref e')) .no z13 z14 z15 .no, m'⟩ ∧
      Two m' e t p dd e' t' p' dd' σ σ' U (mapT (fn F) U) 0 ∧ (∀ k, k ≠ t → k ≠ t' → m'[k]? = m[k]?) ∧ m'.length = m.length := by
  obtain ⟨s', el, m', z4', W, hf, hl, rfl⟩ := loopF_inv (g := gN 4) (b := B_law_5) (((U.map (·.1)).map PyData.str).map W.d) (fun i x => ∃ m' z4', Two m' e t p dd e' t' p' dd' σ σ' (mergeT [] (U.take i)) (mapT (fn F) (mergeT [] (U.take i))) 0 ∧ (∀ k, k ≠ t → k ≠ t' → m'[k]? = m[k]?) ∧ m'.length = m.length ∧
      x = ⟨sl14 ns g z3 z4' z5 z6 z7 z8 (.v (.ref q)) (.v (.ref e)) (.v (.ref e')) .no z13 z14 z15 .no, m'⟩) (fun i hi x ⟨m1, z4', W1, f1, l1, hx⟩ => by
    subst hx
    have hi' : i < U.length := by simpa using hi
    obtain ⟨⟨c, hc, en⟩, _, hk⟩ := hU.at hi'
    have ok := hU.ok U[i] (List.getElem_mem hi')
    have ln := hU.ln U[i] (List.getElem_mem hi')
    have hz : (mergeT [] (U.take i)).length < 1000 := by
      have h1 := mergeT_len (T := []) (U := U.take i)
      have h2 := hU.len
      rw [List.length_take, List.length_nil] at h1
      omega
    obtain ⟨m2, e2, E2, f2, l2⟩ := tape_l W1.a hc ok ln hz
    have W2 := W1.upd E2 (fun k _ _ h3 _ => f2 k h3) (Nat.le_of_eq l2.symm) (Nat.le_refl _)
    have ok' : ∀ k ∈ U[i].2.map (mapK (fn F)), Ky.ok k := fun k hk => by
      obtain ⟨r, hr, rfl⟩ := List.mem_map.mp hk
      exact mapK_ok hS (ok r hr)
    have hz' : (mapT (fn F) (mergeT [] (U.take i))).length < 1000 := by
      unfold mapT
      rw [List.length_map]
      exact hz
    obtain ⟨m3, e3, E3, f3, l3⟩ := tape_l W2.b hc ok' (by rw [List.length_map]; exact ln) hz'
    rw [putT_map] at E3
    have W3 := (W2.swap.upd E3 (fun k _ _ h3 _ => f3 k h3) (Nat.le_of_eq l3.symm) (Nat.le_refl _)).swap
    rw [← en] at e2 e3 W3
    rw [← mergeT_take hi'] at W3
    have lk : look U[i].1 (tapW U) = some (tapeW U[i].2) := by rw [look_tap, hk]; rfl
    have hq1 : m1[q]? = some (.dct (tapW U)) := by rw [f1 q qt.1 qt.2, hq]
    have hq2 : m2[q]? = some (.dct (tapW U)) := by rw [f2 q qt.1, hq1]
    have hg2 : m2[g]? = some (.dct (sgW F)) := by rw [f2 g gt.1, f1 g gt.1 gt.2, hg]
    obtain ⟨s1, fu1, hi1⟩ := W1.a.ins
    obtain ⟨s2, fu2, hi2⟩ := W2.b.ins
    have cp := keys_turn (sl := sl14 ns g z3 (.v (.d (.str U[i].1))) z5 z6 z7 z8 (.v (.ref q)) (.v (.ref e)) (.v (.ref e')) .no z13 z14 z15 .no) (i := 12) (m := m2) (e := B_law_4) (f := fn F) rfl U[i].2 (fun r hr => by
      have tn := turned_ok hg2 r (ok r hr)
      unfold sl14 B_law_4
      simp_arith only [tn])
    rw [List.getElem_map, List.getElem_map, List.getElem_map]
    refine ⟨⟨sl14 ns g z3 (.v (.d (.str U[i].1))) z5 z6 z7 z8 (.v (.ref q)) (.v (.ref e)) (.v (.ref e')) .no z13 z14 z15 .no, m1⟩, ⟨sl14 ns g z3 (.v (.d (.str U[i].1))) z5 z6 z7 z8 (.v (.ref q)) (.v (.ref e)) (.v (.ref e')) .no z13 z14 z15 .no, m3⟩, y_gN z_d, ?_, m3, _, W3, fun k h1 h2 => by rw [f3 k h2, f2 k h1, f1 k h1 h2], by omega, rfl⟩
    have ft : free (tapeW U[i].2) = true := z_d
    have lu : U[i].2.length ≤ 100000 := by omega
    generalize U[i].1 = x at *
    generalize U[i].2 = ks at *
    unfold tapeW at lk e2 e3 ft
    unfold sl14 at cp ⊢
    unfold B_law_5
    simp_arith only [hi1, hq1, lk, e2, hi2, hq2, lu, cp, e3]) ⟨sl14 ns g z3 z4 z5 z6 z7 z8 (.v (.ref q)) (.v (.ref e)) (.v (.ref e')) .no z13 z14 z15 .no, m⟩ ⟨m, z4, h, fun _ _ _ => rfl, rfl, rfl⟩
  have l : (((U.map (·.1)).map PyData.str).map FE.W.d).length = U.length := by simp
  rw [l, List.take_length, mergeT_nil hU] at W
  exact ⟨m', z4', el, W, hf, hl⟩
theorem B2_14 (ns : List Int) (z4 z5 z6 z8 z9 z10 z11 z12 z13 z14 z15 z16 : Sl) {g : Nat} {F : List (Nat × Nat)} {z : Str} {s : List Nat} (es : FE.signs z = chs s) (lz : z.length ≤ 1000) (hn : s.Nodup) (hF : ∀ c ∈ s, F.lookup c = none) (ls : s.length ≤ 100) (lF : F.length ≤ 100) (g3 : 3 ≤ g) (z7 : Sl) (hz : okZ z7) (d : Dr) (rest : M) (hg : (dr d rest)[g]? = some (.dct (sgW F))) :
    ∃ (d' : Dr) (rest' : M) (p : List Nat) (z6' z7' : Sl), okZ z7' ∧ p.Perm s ∧ (dr d' rest')[g]? = some (.dct (sgW (F ++ s.zip p))) ∧ (dr d' rest').length = (dr d rest).length ∧
      B_law_2 ⟨sl14 ns g (.v (.d (.str z))) z4 z5 z6 z7 z8 z9 z10 z11 z12 z13 z14 z15 z16, dr d rest⟩ = .nx ⟨sl14 ns g (.v (.d (.str z))) z4 z5 z6' z7' z8 z9 z10 z11 z12 z13 z14 z15 z16, dr d' rest'⟩ := by
  obtain ⟨d', rest', p, z6', z7', h1, h2, h3, _, h4, e⟩ := draws ns (.v (.d (.str z))) z4 z5 z8 z9 z10 z11 z12 z13 z14 z15 z16 hn hF ls lF g3 z7 hz d rest hg
  refine ⟨d', rest', p, z6', z7', h1, h2, h3, h4, ?_⟩
  have fc := chs_frees s
  have l2 : z.length ≤ 1000000 := by omega
  have l3 : z.length ≤ 100000 := by omega
  unfold sl14 at e ⊢
  unfold B_law_2
  simp_arith only [es, l2, l3, fc, e]
theorem law_ok (ns : List Int) (hns : ns.length ≤ 100000) : ∃ m, F_law [.scr ns] [TB] = .ok (.d (.bool true)) m := by
  obtain ⟨d0, e0⟩ := mix_dr ns 47 hns
  have l0 : (dr d0 []).length = 3 := rfl
  have ap0 : dr d0 [] ++ [B.dct []] = dr d0 [B.dct []] := dr_app
  have hg0 : (dr d0 [B.dct []])[3]? = some (.dct (sgW [])) := rfl
  obtain ⟨d1, rest1, p, y6, y7, hz1, hp, hg1, l1, e1⟩ := B2_14 ns .no .no .no .no .no .no .no .no .no .no .no .no (F := []) sA_eq (by decide +kernel) (by decide) (fun _ _ => rfl) (by decide) (by decide) (Nat.le_refl 3) .no (.inl rfl) d0 [B.dct []] hg0
  rw [List.nil_append] at hg1
  have dis : ∀ c ∈ sB, (sA.zip p).lookup c = none := fun c hc => (zip_look hp.length_eq.symm (by decide)).1 c (by revert c; decide)
  have lz : (sA.zip p).length ≤ 100 := by
    rw [List.length_zip]
    have : sA.length ≤ 100 := by decide
    omega
  obtain ⟨d2, rest2, q, w6, w7, hz2, hq, hg2, l2, e2⟩ := B2_14 ns .no .no y6 .no .no .no .no .no .no .no .no .no (F := sA.zip p) sB_eq (by decide +kernel) (by decide) dis (by decide) lz (Nat.le_refl 3) y7 hz1 d1 rest1 hg1
  obtain ⟨hS, h10⟩ := sgn_fn hp hq
  generalize sA.zip p ++ sB.zip q = F at hg2 hS h10
  obtain ⟨d3, R, hR, e3⟩ := text_gen d2 rest2
  obtain ⟨d4, U, hU, e4⟩ := tapes_gen d3 rest2
  have lr : (dr d2 rest2).length = 4 := by rw [l2, l1]; rfl
  have lq : (dr d3 rest2).length = 4 := by rw [drl (d := d3) (d' := d2), lr]
  rw [lq] at e4
  have hg4 : (dr d4 (rest2 ++ [.dct (tapW U)]))[3]? = some (.dct (sgW F)) := by
    rw [← dr_app, List.getElem?_append_left (by rw [drl (d := d4) (d' := d2), lr]; decide)]
    exact (dr_hi (Nat.le_refl 3)).trans hg2
  have hq4 : (dr d4 (rest2 ++ [.dct (tapW U)]))[4]? = some (.dct (tapW U)) := by
    have := dr_get (d := d4) (rest := rest2 ++ [.dct (tapW U)]) (k := 1)
    rw [this]
    have lr2 : rest2.length = 1 := by rw [dr_len] at lr; omega
    rw [List.getElem?_append_right (by omega), lr2]
    rfl
  have lr2 : rest2.length = 1 := by rw [dr_len] at lr; omega
  have l5 : (dr d4 (rest2 ++ [.dct (tapW U)])).length = 5 := by rw [dr_len, List.length_append, lr2]; rfl
  have hR' := mapS_ok hS hR
  have W0 := two_new (m := dr d4 (rest2 ++ [.dct (tapW U)])) hR hR' (by omega)
  have i1 := init_e (m := dr d4 (rest2 ++ [.dct (tapW U)])) hR
  have i2 := init_e (m := dr d4 (rest2 ++ [.dct (tapW U)]) ++ edBs (dr d4 (rest2 ++ [.dct (tapW U)])).length R) hR'
  have l6 : (dr d4 (rest2 ++ [.dct (tapW U)]) ++ edBs (dr d4 (rest2 ++ [.dct (tapW U)])).length R).length = 12 := by rw [List.length_append, l5]; rfl
  rw [l6] at i2
  rw [l5] at i1 i2 W0 l6
  obtain ⟨rest5, hM⟩ : ∃ rest5, dr d4 (rest2 ++ [.dct (tapW U)]) ++ edBs 5 R ++ edBs 12 (R.map (List.map (fn F))) = dr d4 rest5 := ⟨_, by rw [dr_app, dr_app]⟩
  have hM' : dr d4 (rest2 ++ [.dct (tapW U)]) ++ edBs 5 R ++ edBs (5 + 7) (R.map (List.map (fn F))) = dr d4 rest5 := hM
  rw [hM'] at W0
  have hg5 : (dr d4 rest5)[3]? = some (.dct (sgW F)) := by
    rw [← hM, List.append_assoc, List.getElem?_append_left (by rw [l5]; decide)]
    exact hg4
  have hq5 : (dr d4 rest5)[4]? = some (.dct (tapW U)) := by
    rw [← hM, List.append_assoc, List.getElem?_append_left (by rw [l5]; decide)]
    exact hq4
  obtain ⟨m6, z4', e6, W6, f6, l7⟩ := tapes14 ns (.v (.d (.str (Str.ofString "!#$&()*+-./:;<=>?\x40[]^_{|}0123456789ABCDEFGHIJKLMNOPQRSTUVWXYZ")))) .no .no w6 w7 (.v (.d (.str (txt R)))) .no .no .no (g := 3) (q := 4) hS W0 hg5 hq5 hU (by decide) (by decide)
  obtain ⟨rest6, rfl⟩ := dr_of (m := m6) (f6 0 (by decide) (by decide)) (f6 1 (by decide) (by decide)) (f6 2 (by decide) (by decide))
  have hg6 : (dr d4 rest6)[3]? = some (.dct (sgW F)) := by rw [f6 3 (by decide) (by decide), hg5]
  have b0 := nx_lo (d := d4) (n := 30) (by decide)
  have b1 := nx_hi (d := d4) (n := 30) (by decide)
  obtain ⟨N, hN⟩ : ∃ N : Nat, nx d4 30 = (N : Int) := ⟨(nx d4 30).toNat, by omega⟩
  have O6 : Ok14 (dr (st d4 30) rest6) 3 5 12 F 0 := ⟨⟨_, _, _, _, _, _, _, _, W6.dr, by decide, by decide⟩, (dr_hi (Nat.le_refl 3)).trans hg6, Nat.le_refl 3⟩
  obtain ⟨s', el, d7, rest7, z5', x12, x13, x14, x15, hO, rfl⟩ := loopF_inv (g := gN 5) (b := B_law_11) ((List.range N).map fun (i : Nat) => W.d (.int i)) (fun i s => ∃ d7 rest7 z5' x12 x13 x14 x15, Ok14 (dr d7 rest7) 3 5 12 F (2 * i) ∧
      s = ⟨sl14 ns 3 (.v (.d (.str (Str.ofString "!#$&()*+-./:;<=>?\x40[]^_{|}0123456789ABCDEFGHIJKLMNOPQRSTUVWXYZ")))) z4' z5' w6 w7 (.v (.d (.str (txt R)))) (.v (.ref 4)) (.v (.ref 5)) (.v (.ref 12)) x12 x13 x14 x15 .no, dr d7 rest7⟩) (fun i hi s ⟨d7, rest7, z5', x12, x13, x14, x15, hO, hs⟩ => by
    subst hs
    have hi' : i < N := by simpa using hi
    rw [rng_get]
    obtain ⟨d8, rest8, y12, y13, y14, y15, e8, hO8⟩ := step14 ns (.v (.d (.str (Str.ofString "!#$&()*+-./:;<=>?\x40[]^_{|}0123456789ABCDEFGHIJKLMNOPQRSTUVWXYZ")))) z4' (.v (.d (.int i))) w6 w7 (.v (.d (.str (txt R)))) (.v (.ref 4)) x12 x13 x14 x15 h10 hS hO (by omega) hz2
    exact ⟨⟨sl14 ns 3 (.v (.d (.str (Str.ofString "!#$&()*+-./:;<=>?\x40[]^_{|}0123456789ABCDEFGHIJKLMNOPQRSTUVWXYZ")))) z4' (.v (.d (.int i))) w6 w7 (.v (.d (.str (txt R)))) (.v (.ref 4)) (.v (.ref 5)) (.v (.ref 12)) x12 x13 x14 x15 .no, dr d7 rest7⟩, _, y_gN z_d, e8, d8, rest8, _, _, _, _, _, hO8, rfl⟩) ⟨sl14 ns 3 (.v (.d (.str (Str.ofString "!#$&()*+-./:;<=>?\x40[]^_{|}0123456789ABCDEFGHIJKLMNOPQRSTUVWXYZ")))) z4' .no w6 w7 (.v (.d (.str (txt R)))) (.v (.ref 4)) (.v (.ref 5)) (.v (.ref 12)) .no .no .no .no .no, dr (st d4 30) rest6⟩ ⟨_, _, _, _, _, _, _, O6, rfl⟩
  refine ⟨dr d7 rest7, ?_⟩
  -- the text by other signs
  have tt : rowOf ((txt R).cps.toList.map (fn F)) = txt (R.map (List.map (fn F))) := txt_turn h10 R
  have lt := txt_len hR.many hR.len
  have lt1 : (txt R).length ≤ 100000 := by omega
  have cp : ∀ z7 : Sl, loopC 7 cT B_law_3 ((txt R).cps.toList.map fun c => W.d (.str (rowOf [c]))) ⟨sl14 ns 3 (.v (.d (.str (Str.ofString "!#$&()*+-./:;<=>?\x40[]^_{|}0123456789ABCDEFGHIJKLMNOPQRSTUVWXYZ")))) .no .no w6 .no (.v (.d (.str (txt R)))) (.v (.ref 4)) .no .no .no .no .no .no .no, dr d4 (rest2 ++ [.dct (tapW U)]) ++ edBs 5 R⟩ = .ok (stl (((txt R).cps.toList.map (fn F)).map fun c => ⟨#[c]⟩)) ⟨sl14 ns 3 (.v (.d (.str (Str.ofString "!#$&()*+-./:;<=>?\x40[]^_{|}0123456789ABCDEFGHIJKLMNOPQRSTUVWXYZ")))) .no .no w6 .no (.v (.d (.str (txt R)))) (.v (.ref 4)) .no .no .no .no .no .no .no, dr d4 (rest2 ++ [.dct (tapW U)]) ++ edBs 5 R⟩ := fun _ =>
    row_turn (sl := sl14 ns 3 (.v (.d (.str (Str.ofString "!#$&()*+-./:;<=>?\x40[]^_{|}0123456789ABCDEFGHIJKLMNOPQRSTUVWXYZ")))) .no .no w6 .no (.v (.d (.str (txt R)))) (.v (.ref 4)) .no .no .no .no .no .no .no) (i := 7) (e := B_law_3) (F := F) rfl (fun c => by
      have lk := look_fn F c
      have hg : (dr d4 (rest2 ++ [.dct (tapW U)]) ++ edBs 5 R)[3]? = some (.dct (sgW F)) := app_at hg4
      unfold sl14 B_law_3
      simp_arith only [hg, lk]) _
  have cp := cp .no
  have es : FE.signs (txt R) = (txt R).cps.toList.map fun c => W.d (.str (rowOf [c])) := rfl
  have l2' : ((txt R).cps.toList.map (fn F)).length ≤ 100000 := by
    rw [List.length_map]
    have : (txt R).length = (txt R).cps.toList.length := by
      show (txt R).cps.size = _
      simp
    omega
  have so := fun sl => sort_l hU hq5 sl
  have lu : U.length ≤ 100000 := Nat.le_trans hU.len (by decide)
  generalize hcs : (txt R).cps.toList.map (fn F) = cs' at cp l2' tt
  have jr : Txt.join (Str.ofString "") (cs'.map fun c => (⟨#[c]⟩ : Str)) = txt (R.map (List.map (fn F))) := by rw [join_row, tt]
  unfold sl14 at e1 e2 e6 el cp
  unfold F_law B_law
  rcases hz2 with rfl | ⟨w, rfl⟩
  · simp_arith only [e0, l0, ap0, y_loop, e1, e2, e3, e4, l5, i1, lt1, es, cp, stl_allD, jr, join_fit l2', l6, i2, hM, so, lu, e6, nxt, hN, show -40000 ≤ (N : Int) by omega, show (N : Int) ≤ 40000 by omega, el]
  · simp_arith only [e0, l0, ap0, y_loop, e1, e2, e3, e4, l5, i1, lt1, es, cp, stl_allD, jr, join_fit l2', l6, i2, hM, so, lu, e6, nxt, hN, show -40000 ≤ (N : Int) by omega, show (N : Int) ≤ 40000 by omega, el]
end FE
namespace KT
open PySem PySem.Spec PyProof.Rows L2 KR FE
section
variable {P : Program} {w : World} {K : PySem.W.Frag} {mg : Str → Option Value} {base : Heap}
theorem sc_is_number : FnScope ["part", "low", "high"] ["part", "low", "high"] (defScope s_is_number) := ⟨rfl, rfl, rfl, by decide +kernel, rfl, by decide +kernel, by decide +kernel⟩
theorem ok_is_number (T : Tx K mg) : Cal P w K mg base 1 "is_number" (spF K 3 F_is_number) := by
  obtain ⟨fd, F⟩ := T.f_is_number
  exact cal_fn (N := ["part", "low", "high"]) (g := B_is_number) F T.n_is_number sc_is_number rfl (fun _ _ _ _ _ _ us hl => match us, hl with | [_, _, _], _ => rfl) fun cdv A outer s H E hr => by
    have nd := sc_is_number.nd
    exact (s_one (s_ret (f_and (f_isi (by rfl) T.n_isinstance (f_v 0 (pv 0)) (pe_gty (n := "int") rfl T.n_int (by decide +kernel))) (f_and (f_not (f_isi (by rfl) T.n_isinstance (f_v 0 (pv 0)) (pe_gty (n := "bool") rfl T.n_bool (by decide +kernel)))) (f_one (f_chain o_Le o_Le (f_v 1 (pv 1)) (f_v 0 (pv 0)) (f_v 2 (pv 2))))))))
theorem sc_are_signs : FnScope ["text", "least", "most", "sign"] ["text", "least", "most"] (defScope s_are_signs) := ⟨rfl, rfl, rfl, by decide +kernel, rfl, by decide +kernel, by decide +kernel⟩
theorem ok_are_signs (T : Tx K mg) : Cal P w K mg base 1 "are_signs" (spF K 3 F_are_signs) := by
  obtain ⟨fd, F⟩ := T.f_are_signs
  exact cal_fn (N := ["text", "least", "most", "sign"]) (g := B_are_signs) F T.n_are_signs sc_are_signs rfl (fun _ _ _ _ _ _ us hl => match us, hl with | [_, _, _], _ => rfl) fun cdv A outer s H E hr => by
    have nd := sc_are_signs.nd
    exact (s_cons (s_if (PW.pt (t_or (t_not (t_val (f_isi (by rfl) T.n_isinstance (f_v 0 (pv 0)) (pe_gty (n := "str") rfl T.n_str (by decide +kernel))))) (t_or1 (t_not (t_chain o_Le o_Le (f_v 1 (pv 1)) (f_B b_LenS (by rfl) T.n_len (by decide +kernel) (f_cons (f_v 0 (pv 0)) f_nil)) (f_v 2 (pv 2)))))))
    (s_one (s_ret f_bl))
    s_nil)
  (s_one (s_ret (f_cmp (o_Nil hr.units0) (f_F (f_comp (i := 3) rfl nd (i_str (f_v 0 (pv 0))) (blkOk_by (N := ["text", "least", "most", "sign"]) (sc := defScope s_are_signs) (own := [("sign", 3)]) (by decide +kernel)) (fun _ _ _ _ _ => pg_name (i := 3) nd rfl (Or.inl rfl)) (fun _ _ _ _ _ => pts_one (t_not (t_chain o_LeS o_LeS f_str (f_v 3 (pv 3)) f_str))) (fun _ _ _ _ _ => (f_v 3 (pv 3))))) (f_F (f_lst f_nil)) (nomark _)))))
theorem sc_is_name : FnScope ["name"] ["name"] (defScope s_is_name) := ⟨rfl, rfl, rfl, by decide +kernel, rfl, by decide +kernel, by decide +kernel⟩
theorem ok_is_name (T : Tx K mg) : Cal P w K mg base 1 "is_name" (spF K 1 F_is_name) := by
  obtain ⟨fd, F⟩ := T.f_is_name
  exact cal_fn (N := ["name"]) (g := B_is_name) F T.n_is_name sc_is_name rfl (fun _ _ _ _ _ _ us hl => match us, hl with | [_], _ => rfl) fun cdv A outer s H E hr => by
    have nd := sc_is_name.nd
    exact (s_one (s_ret (f_and (f_isi (by rfl) T.n_isinstance (f_v 0 (pv 0)) (pe_gty (n := "str") rfl T.n_str (by decide +kernel))) (f_and (f_cmp o_Eq (f_B b_LenS (by rfl) T.n_len (by decide +kernel) (f_cons (f_v 0 (pv 0)) f_nil)) f_int (nomark _)) (f_one (f_cmp o_InS (f_v 0 (pv 0)) (f_gstr rfl T.n_NAMES) (by rfl)))))))
theorem sc_is_key : FnScope ["key"] ["key"] (defScope s_is_key) := ⟨rfl, rfl, rfl, by decide +kernel, rfl, by decide +kernel, by decide +kernel⟩
theorem ok_is_key (T : Tx K mg) (C_are_signs : Cal P w K mg base 1 "are_signs" (spF K 3 F_are_signs)) (C_is_number : Cal P w K mg base 1 "is_number" (spF K 3 F_is_number)) (C_is_name : Cal P w K mg base 1 "is_name" (spF K 1 F_is_name)) : Cal P w K mg base 2 "is_key" (spF K 1 F_is_key) := by
  obtain ⟨fd, F⟩ := T.f_is_key
  exact cal_fn (N := ["key"]) (g := B_is_key) F T.n_is_key sc_is_key rfl (fun _ _ _ _ _ _ us hl => match us, hl with | [_], _ => rfl) fun cdv A outer s H E hr => by
    have nd := sc_is_key.nd
    exact (s_cons (s_if (PW.pt (t_or (t_not (t_val (f_isi (by rfl) T.n_isinstance (f_v 0 (pv 0)) (pe_gty (n := "tuple") rfl T.n_tuple (by decide +kernel))))) (t_or (t_cmp (o_NilT hr.units0) (f_v 0 (pv 0)) (f_tup f_nil) (nomark _)) (t_or1 (t_not (t_val (f_isi (by rfl) T.n_isinstance (f_ix o_IxT (f_v 0 (pv 0)) f_int (fun _ _ => rfl)) (pe_gty (n := "str") rfl T.n_str (by decide +kernel)))))))))
    (s_one (s_ret f_bl))
    s_nil)
  (s_cons (s_if (t_cmp o_In (f_ix o_IxT (f_v 0 (pv 0)) f_int (fun _ _ => rfl)) (f_tup (f_cons f_str (f_cons f_str f_nil))) (by rfl))
    (s_one (s_ret (f_and (f_cmp o_Eq (f_B b_LenT (by rfl) T.n_len (by decide +kernel) (f_cons (f_v 0 (pv 0)) f_nil)) f_int (nomark _)) (f_one (f_call C_are_signs hr (by decide) rfl px (f_cons (f_ix o_IxT (f_v 0 (pv 0)) f_int (fun _ _ => rfl)) (f_cons f_int (f_cons (f_if (t_cmp o_Eq (f_ix o_IxT (f_v 0 (pv 0)) f_int (fun _ _ => rfl)) f_str (nomark _)) f_int (f_gint rfl T.n_MOST_WORD)) f_nil))))))))
    s_nil)
  (s_cons (s_if (t_cmp o_Eq (f_ix o_IxT (f_v 0 (pv 0)) f_int (fun _ _ => rfl)) f_str (nomark _))
    (s_one (s_ret (f_and (f_cmp o_Eq (f_B b_LenT (by rfl) T.n_len (by decide +kernel) (f_cons (f_v 0 (pv 0)) f_nil)) f_int (nomark _)) (f_and (f_call C_is_name hr (by decide) rfl px (f_cons (f_ix o_IxT (f_v 0 (pv 0)) f_int (fun _ _ => rfl)) f_nil)) (f_one (f_call C_is_number hr (by decide) rfl px (f_cons (f_ix o_IxT (f_v 0 (pv 0)) f_int (fun _ _ => rfl)) (f_cons f_int (f_cons (f_gint rfl T.n_MOST_TIMES) f_nil)))))))))
    s_nil)
  (s_cons (s_if (t_cmp o_Eq (f_ix o_IxT (f_v 0 (pv 0)) f_int (fun _ _ => rfl)) f_str (nomark _))
    (s_one (s_ret (f_and (f_cmp o_Eq (f_B b_LenT (by rfl) T.n_len (by decide +kernel) (f_cons (f_v 0 (pv 0)) f_nil)) f_int (nomark _)) (f_one (f_call C_is_name hr (by decide) rfl px (f_cons (f_ix o_IxT (f_v 0 (pv 0)) f_int (fun _ _ => rfl)) f_nil))))))
    s_nil)
  (s_one (s_ret (f_and (f_cmp o_Eq (f_B b_LenT (by rfl) T.n_len (by decide +kernel) (f_cons (f_v 0 (pv 0)) f_nil)) f_int (nomark _)) (f_one (f_cmp o_In (f_ix o_IxT (f_v 0 (pv 0)) f_int (fun _ _ => rfl)) (f_gtup rfl T.n_BARE T.t_BARE) (by rfl))))))))))
theorem sc_need_key : FnScope ["key"] ["key"] (defScope s_need_key) := ⟨rfl, rfl, rfl, by decide +kernel, rfl, by decide +kernel, by decide +kernel⟩
theorem ok_need_key (T : Tx K mg) (C_is_key : Cal P w K mg base 2 "is_key" (spF K 1 F_is_key)) : Cal P w K mg base 3 "need_key" (spF K 1 F_need_key) := by
  obtain ⟨fd, F⟩ := T.f_need_key
  exact cal_fn (N := ["key"]) (g := B_need_key) F T.n_need_key sc_need_key rfl (fun _ _ _ _ _ _ us hl => match us, hl with | [_], _ => rfl) fun cdv A outer s H E hr => by
    have nd := sc_need_key.nd
    exact (s_one (s_if (t_not (t_val (f_call C_is_key hr (by decide) rfl px (f_cons (f_v 0 (pv 0)) f_nil))))
    (s_one (s_raise (by rfl) (by exact (takes_of rfl rfl rfl rfl)) T.e_BadKey T.n_BadKey (by rfl)))
    s_nil))
theorem sc_need_name : FnScope ["name"] ["name"] (defScope s_need_name) := ⟨rfl, rfl, rfl, by decide +kernel, rfl, by decide +kernel, by decide +kernel⟩
theorem ok_need_name (T : Tx K mg) (C_is_name : Cal P w K mg base 1 "is_name" (spF K 1 F_is_name)) : Cal P w K mg base 2 "need_name" (spF K 1 F_need_name) := by
  obtain ⟨fd, F⟩ := T.f_need_name
  exact cal_fn (N := ["name"]) (g := B_need_name) F T.n_need_name sc_need_name rfl (fun _ _ _ _ _ _ us hl => match us, hl with | [_], _ => rfl) fun cdv A outer s H E hr => by
    have nd := sc_need_name.nd
    exact (s_one (s_if (t_not (t_val (f_call C_is_name hr (by decide) rfl px (f_cons (f_v 0 (pv 0)) f_nil))))
    (s_one (s_raise (by rfl) (by exact (takes_of rfl rfl rfl rfl)) T.e_BadName T.n_BadName (by rfl)))
    s_nil))
theorem sc_need_keys : FnScope ["keys", "most", "at"] ["keys", "most"] (defScope s_need_keys) := ⟨rfl, rfl, rfl, by decide +kernel, rfl, by decide +kernel, by decide +kernel⟩
theorem ok_need_keys (T : Tx K mg) (C_is_key : Cal P w K mg base 2 "is_key" (spF K 1 F_is_key)) : Cal P w K mg base 3 "need_keys" (spF K 2 F_need_keys) := by
  obtain ⟨fd, F⟩ := T.f_need_keys
  exact cal_fn (N := ["keys", "most", "at"]) (g := B_need_keys) F T.n_need_keys sc_need_keys rfl (fun _ _ _ _ _ _ us hl => match us, hl with | [_, _], _ => rfl) fun cdv A outer s H E hr => by
    have nd := sc_need_keys.nd
    exact (s_cons (s_if (t_not (t_val (f_isi (by rfl) T.n_isinstance (f_v 0 (pv 0)) (pe_gty (n := "tuple") rfl T.n_tuple (by decide +kernel)))))
    (s_one s_never)
    s_nil)
  (s_one (s_for' po rfl (i_rng1 (by rfl) T.n_range (f_cons (f_B b_LenT (by rfl) T.n_len (by decide +kernel) (f_cons (f_v 0 (pv 0)) f_nil)) f_nil)) (g_name (i := 2) nd rfl (Or.inl rfl))
    (s_one (s_if (PW.pt (t_or (t_cmp o_Ge (f_v 2 (pv 2)) (f_v 1 (pv 1)) (nomark _)) (t_or1 (t_not (t_val (f_call C_is_key hr (by decide) rfl px (f_cons (f_ix o_IxT (f_v 0 (pv 0)) (f_v 2 (pv 2)) (fun _ _ => rfl)) f_nil)))))))
      (s_one s_never)
      s_nil)))))
theorem sc_need_text : FnScope ["text", "rows", "row"] ["text"] (defScope s_need_text) := ⟨rfl, rfl, rfl, by decide +kernel, rfl, by decide +kernel, by decide +kernel⟩
theorem ok_need_text (T : Tx K mg) (C_are_signs : Cal P w K mg base 1 "are_signs" (spF K 3 F_are_signs)) : Cal P w K mg base 2 "need_text" (spF K 1 F_need_text) := by
  obtain ⟨fd, F⟩ := T.f_need_text
  exact cal_fn (N := ["text", "rows", "row"]) (g := B_need_text) F T.n_need_text sc_need_text rfl (fun _ _ _ _ _ _ us hl => match us, hl with | [_], _ => rfl) fun cdv A outer s H E hr => by
    have nd := sc_need_text.nd
    exact (s_cons (s_set (i := 1) nd rfl (Or.inl rfl) (f_F (f_split (f_v 0 (pv 0)) f_str)))
  (s_one (s_if (PW.pt (t_or (t_cmp o_Gt (f_B b_LenL (by rfl) T.n_len (by decide +kernel) (f_cons (f_v 1 (pv 1)) f_nil)) (f_gint rfl T.n_MOST_ROWS) (nomark _)) (t_or1 (t_cmp (o_NNil hr.units0) (f_F (f_comp (i := 2) rfl nd (i_list (f_v 1 (pv 1))) (blkOk_by (N := ["text", "rows", "row"]) (sc := defScope s_need_text) (own := [("row", 2)]) (by decide +kernel)) (fun _ _ _ _ _ => pg_name (i := 2) nd rfl (Or.inl rfl)) (fun _ _ _ _ _ => pts_one (t_not (t_val (f_call C_are_signs hr (by decide) rfl passL (f_cons (f_v 2 (pv 2)) (f_cons f_int (f_cons (f_gint rfl T.n_MOST_SIGNS) f_nil))))))) (fun _ _ _ _ _ => (f_v 2 (pv 2))))) (f_F (f_lst f_nil)) (nomark _)))))
    (s_one (s_raise (by rfl) (by exact (takes_of rfl rfl rfl rfl)) T.e_BadText T.n_BadText (by rfl)))
    s_nil)))
theorem sc_Sheet_init : FnScope ["self", "rows", "row", "column", "held"] ["self", "rows", "row", "column", "held"] (defScope s_Sheet_init) := ⟨rfl, rfl, rfl, by decide +kernel, rfl, by decide +kernel, by decide +kernel⟩
theorem ok_Sheet_init (T : Tx K mg) : Mak P w K mg base 1 "Sheet" (He.ga K "Sheet") (spF K 5 F_Sheet_init) := by
  obtain ⟨fd, F⟩ := T.f_Sheet_init
  exact mak_fn (N := ["self", "rows", "row", "column", "held"]) (g := B_Sheet_init) T.k_Sheet T.n_Sheet F sc_Sheet_init rfl (fun _ _ _ _ _ _ us hl => match us, hl with | [_, _, _, _, _], _ => rfl) fun cdv A outer s H E hr => by
    have nd := sc_Sheet_init.nd
    exact (s_cons (s_fld' T.c_Sheet T.a_Sheet_rows (f_v 0 (pv 0)) (f_Bx (f_Ty b_List (by rfl) T.n_list (by decide +kernel) (f_cons (f_v 1 (pv 1)) f_nil))))
  (s_cons (s_fld' T.c_Sheet T.a_Sheet_row (f_v 0 (pv 0)) (f_v 2 (pv 2)))
  (s_cons (s_fld' T.c_Sheet T.a_Sheet_column (f_v 0 (pv 0)) (f_v 3 (pv 3)))
  (s_one (s_fld' T.c_Sheet T.a_Sheet_held (f_v 0 (pv 0)) (f_v 4 (pv 4)))))))
theorem sc_Sheet_copied : FnScope ["self"] ["self"] (defScope s_Sheet_copied) := ⟨rfl, rfl, rfl, by decide +kernel, rfl, by decide +kernel, by decide +kernel⟩
theorem ok_Sheet_copied (T : Tx K mg) (C_Sheet : Mak P w K mg base 1 "Sheet" (He.ga K "Sheet") (spF K 5 F_Sheet_init)) : Met P w K mg base 3 (He.ga K "Sheet") "copied" (spF K 1 F_Sheet_copied) := by
  obtain ⟨fd, F⟩ := T.f_Sheet_copied
  exact met_fn (N := ["self"]) (g := B_Sheet_copied) (x := default) T.c_Sheet T.m_Sheet_copied F sc_Sheet_copied rfl (fun _ _ _ _ _ _ us hl => match us, hl with | [_], _ => rfl) fun cdv A outer s H E hr => by
    have nd := sc_Sheet_copied.nd
    exact (s_one (s_ret (f_mak C_Sheet hr (by decide) rfl px (f_cons (f_get T.c_Sheet T.a_Sheet_rows (f_v 0 (pv 0))) (f_cons (f_get T.c_Sheet T.a_Sheet_row (f_v 0 (pv 0))) (f_cons (f_get T.c_Sheet T.a_Sheet_column (f_v 0 (pv 0))) (f_cons (f_get T.c_Sheet T.a_Sheet_held (f_v 0 (pv 0))) f_nil)))))))
theorem sc_Sheet_here : FnScope ["self"] ["self"] (defScope s_Sheet_here) := ⟨rfl, rfl, rfl, by decide +kernel, rfl, by decide +kernel, by decide +kernel⟩
theorem ok_Sheet_here (T : Tx K mg) : Met P w K mg base 1 (He.ga K "Sheet") "here" (spF K 1 F_Sheet_here) := by
  obtain ⟨fd, F⟩ := T.f_Sheet_here
  exact met_fn (N := ["self"]) (g := B_Sheet_here) (x := default) T.c_Sheet T.m_Sheet_here F sc_Sheet_here rfl (fun _ _ _ _ _ _ us hl => match us, hl with | [_], _ => rfl) fun cdv A outer s H E hr => by
    have nd := sc_Sheet_here.nd
    exact (s_one (s_ret (f_ix o_Ix (f_get T.c_Sheet T.a_Sheet_rows (f_v 0 (pv 0))) (f_get T.c_Sheet T.a_Sheet_row (f_v 0 (pv 0))) (fun _ _ => rfl))))
theorem sc_Sheet_go : FnScope ["self", "row", "column"] ["self", "row", "column"] (defScope s_Sheet_go) := ⟨rfl, rfl, rfl, by decide +kernel, rfl, by decide +kernel, by decide +kernel⟩
theorem ok_Sheet_go (T : Tx K mg) : Met P w K mg base 1 (He.ga K "Sheet") "go" (spF K 3 F_Sheet_go) := by
  obtain ⟨fd, F⟩ := T.f_Sheet_go
  exact met_fn (N := ["self", "row", "column"]) (g := B_Sheet_go) (x := default) T.c_Sheet T.m_Sheet_go F sc_Sheet_go rfl (fun _ _ _ _ _ _ us hl => match us, hl with | [_, _, _], _ => rfl) fun cdv A outer s H E hr => by
    have nd := sc_Sheet_go.nd
    exact (s_cons (s_fld' T.c_Sheet T.a_Sheet_row (f_v 0 (pv 0)) (f_v 1 (pv 1)))
  (s_cons (s_fld' T.c_Sheet T.a_Sheet_column (f_v 0 (pv 0)) (f_v 2 (pv 2)))
  (s_one (s_ret f_bl))))
theorem sc_Sheet_lay : FnScope ["self", "signs", "row"] ["self", "signs"] (defScope s_Sheet_lay) := ⟨rfl, rfl, rfl, by decide +kernel, rfl, by decide +kernel, by decide +kernel⟩
theorem ok_Sheet_lay (T : Tx K mg) (C_Sheet_here : Met P w K mg base 1 (He.ga K "Sheet") "here" (spF K 1 F_Sheet_here)) : Met P w K mg base 2 (He.ga K "Sheet") "lay" (spF K 2 F_Sheet_lay) := by
  obtain ⟨fd, F⟩ := T.f_Sheet_lay
  exact met_fn (N := ["self", "signs", "row"]) (g := B_Sheet_lay) (x := default) T.c_Sheet T.m_Sheet_lay F sc_Sheet_lay rfl (fun _ _ _ _ _ _ us hl => match us, hl with | [_, _], _ => rfl) fun cdv A outer s H E hr => by
    have nd := sc_Sheet_lay.nd
    exact (s_cons (s_set (i := 2) nd rfl (Or.inl rfl) (f_met0 C_Sheet_here (f_v 0 (pv 0)) hr (by decide) px))
  (s_cons (s_if (t_cmp o_Gt (f_bin o_Add (f_B b_LenS (by rfl) T.n_len (by decide +kernel) (f_cons (f_v 2 (pv 2)) f_nil)) (f_B b_LenS (by rfl) T.n_len (by decide +kernel) (f_cons (f_v 1 (pv 1)) f_nil))) (f_gint rfl T.n_MOST_SIGNS) (nomark _))
    (s_one (s_ret f_bl))
    s_nil)
  (s_cons (s_asg (f_bin o_AddS (f_bin o_AddS (f_sl l_S (f_v 2 (pv 2)) x_none (x_some (f_get T.c_Sheet T.a_Sheet_column (f_v 0 (pv 0))))) (f_v 1 (pv 1))) (f_sl l_S (f_v 2 (pv 2)) (x_some (f_get T.c_Sheet T.a_Sheet_column (f_v 0 (pv 0)))) x_none)) (g_ix (f_get T.c_Sheet T.a_Sheet_rows (f_v 0 (pv 0))) (f_get T.c_Sheet T.a_Sheet_row (f_v 0 (pv 0)))))
  (s_cons (s_fld' T.c_Sheet T.a_Sheet_column (f_v 0 (pv 0)) (f_bin o_Add (f_get T.c_Sheet T.a_Sheet_column (f_v 0 (pv 0))) (f_B b_LenS (by rfl) T.n_len (by decide +kernel) (f_cons (f_v 1 (pv 1)) f_nil))))
  (s_one (s_ret f_bl))))))
theorem sc_Sheet_parted : FnScope ["self", "row"] ["self"] (defScope s_Sheet_parted) := ⟨rfl, rfl, rfl, by decide +kernel, rfl, by decide +kernel, by decide +kernel⟩
theorem ok_Sheet_parted (T : Tx K mg) (C_Sheet_here : Met P w K mg base 1 (He.ga K "Sheet") "here" (spF K 1 F_Sheet_here)) (C_Sheet_go : Met P w K mg base 1 (He.ga K "Sheet") "go" (spF K 3 F_Sheet_go)) : Met P w K mg base 2 (He.ga K "Sheet") "parted" (spF K 1 F_Sheet_parted) := by
  obtain ⟨fd, F⟩ := T.f_Sheet_parted
  exact met_fn (N := ["self", "row"]) (g := B_Sheet_parted) (x := default) T.c_Sheet T.m_Sheet_parted F sc_Sheet_parted rfl (fun _ _ _ _ _ _ us hl => match us, hl with | [_], _ => rfl) fun cdv A outer s H E hr => by
    have nd := sc_Sheet_parted.nd
    exact (s_cons (s_set (i := 1) nd rfl (Or.inl rfl) (f_met0 C_Sheet_here (f_v 0 (pv 0)) hr (by decide) px))
  (s_cons (s_if (t_cmp o_Eq (f_B b_LenL (by rfl) T.n_len (by decide +kernel) (f_cons (f_get T.c_Sheet T.a_Sheet_rows (f_v 0 (pv 0))) f_nil)) (f_gint rfl T.n_MOST_ROWS) (nomark _))
    (s_one (s_ret f_bl))
    s_nil)
  (s_cons (s_sl (f_lst (f_cons (f_sl l_S (f_v 1 (pv 1)) x_none (x_some (f_get T.c_Sheet T.a_Sheet_column (f_v 0 (pv 0))))) (f_cons (f_sl l_S (f_v 1 (pv 1)) (x_some (f_get T.c_Sheet T.a_Sheet_column (f_v 0 (pv 0)))) x_none) f_nil))) (f_get T.c_Sheet T.a_Sheet_rows (f_v 0 (pv 0))) (f_get T.c_Sheet T.a_Sheet_row (f_v 0 (pv 0))) (f_bin o_Add (f_get T.c_Sheet T.a_Sheet_row (f_v 0 (pv 0))) f_int))
  (s_one (s_ret (f_met C_Sheet_go (f_v 0 (pv 0)) hr (by decide) px (f_cons (f_bin o_Add (f_get T.c_Sheet T.a_Sheet_row (f_v 0 (pv 0))) f_int) (f_cons f_int f_nil))))))))
theorem sc_Sheet_rubbed : FnScope ["self", "row", "above"] ["self"] (defScope s_Sheet_rubbed) := ⟨rfl, rfl, rfl, by decide +kernel, rfl, by decide +kernel, by decide +kernel⟩
theorem ok_Sheet_rubbed (T : Tx K mg) (C_Sheet_here : Met P w K mg base 1 (He.ga K "Sheet") "here" (spF K 1 F_Sheet_here)) (C_Sheet_go : Met P w K mg base 1 (He.ga K "Sheet") "go" (spF K 3 F_Sheet_go)) : Met P w K mg base 2 (He.ga K "Sheet") "rubbed" (spF K 1 F_Sheet_rubbed) := by
  obtain ⟨fd, F⟩ := T.f_Sheet_rubbed
  exact met_fn (N := ["self", "row", "above"]) (g := B_Sheet_rubbed) (x := default) T.c_Sheet T.m_Sheet_rubbed F sc_Sheet_rubbed rfl (fun _ _ _ _ _ _ us hl => match us, hl with | [_], _ => rfl) fun cdv A outer s H E hr => by
    have nd := sc_Sheet_rubbed.nd
    exact (s_cons (s_set (i := 1) nd rfl (Or.inl rfl) (f_met0 C_Sheet_here (f_v 0 (pv 0)) hr (by decide) px))
  (s_cons (s_if (t_cmp o_Gt (f_get T.c_Sheet T.a_Sheet_column (f_v 0 (pv 0))) f_int (nomark _))
    (s_cons (s_asg (f_bin o_AddS (f_sl l_S (f_v 1 (pv 1)) x_none (x_some (f_bin o_Sub (f_get T.c_Sheet T.a_Sheet_column (f_v 0 (pv 0))) f_int))) (f_sl l_S (f_v 1 (pv 1)) (x_some (f_get T.c_Sheet T.a_Sheet_column (f_v 0 (pv 0)))) x_none)) (g_ix (f_get T.c_Sheet T.a_Sheet_rows (f_v 0 (pv 0))) (f_get T.c_Sheet T.a_Sheet_row (f_v 0 (pv 0)))))
    (s_one (s_ret (f_met C_Sheet_go (f_v 0 (pv 0)) hr (by decide) px (f_cons (f_get T.c_Sheet T.a_Sheet_row (f_v 0 (pv 0))) (f_cons (f_bin o_Sub (f_get T.c_Sheet T.a_Sheet_column (f_v 0 (pv 0))) f_int) f_nil))))))
    s_nil)
  (s_cons (s_if (PW.pt (t_or (t_cmp o_Eq (f_get T.c_Sheet T.a_Sheet_row (f_v 0 (pv 0))) f_int (nomark _)) (t_or1 (t_cmp o_Gt (f_bin o_Add (f_B b_LenS (by rfl) T.n_len (by decide +kernel) (f_cons (f_ix o_Ix (f_get T.c_Sheet T.a_Sheet_rows (f_v 0 (pv 0))) (f_bin o_Sub (f_get T.c_Sheet T.a_Sheet_row (f_v 0 (pv 0))) f_int) (fun _ _ => rfl)) f_nil)) (f_B b_LenS (by rfl) T.n_len (by decide +kernel) (f_cons (f_v 1 (pv 1)) f_nil))) (f_gint rfl T.n_MOST_SIGNS) (nomark _)))))
    (s_one (s_ret f_bl))
    s_nil)
  (s_cons (s_set (i := 2) nd rfl (Or.inl rfl) (f_ix o_Ix (f_get T.c_Sheet T.a_Sheet_rows (f_v 0 (pv 0))) (f_bin o_Sub (f_get T.c_Sheet T.a_Sheet_row (f_v 0 (pv 0))) f_int) (fun _ _ => rfl)))
  (s_cons (s_sl (f_lst (f_cons (f_bin o_AddS (f_v 2 (pv 2)) (f_v 1 (pv 1))) f_nil)) (f_get T.c_Sheet T.a_Sheet_rows (f_v 0 (pv 0))) (f_bin o_Sub (f_get T.c_Sheet T.a_Sheet_row (f_v 0 (pv 0))) f_int) (f_bin o_Add (f_get T.c_Sheet T.a_Sheet_row (f_v 0 (pv 0))) f_int))
  (s_one (s_ret (f_met C_Sheet_go (f_v 0 (pv 0)) hr (by decide) px (f_cons (f_bin o_Sub (f_get T.c_Sheet T.a_Sheet_row (f_v 0 (pv 0))) f_int) (f_cons (f_B b_LenS (by rfl) T.n_len (by decide +kernel) (f_cons (f_v 2 (pv 2)) f_nil)) f_nil))))))))))
theorem sc_Sheet_taken : FnScope ["self", "row", "end"] ["self"] (defScope s_Sheet_taken) := ⟨rfl, rfl, rfl, by decide +kernel, rfl, by decide +kernel, by decide +kernel⟩
theorem ok_Sheet_taken (T : Tx K mg) (C_Sheet_here : Met P w K mg base 1 (He.ga K "Sheet") "here" (spF K 1 F_Sheet_here)) : Met P w K mg base 2 (He.ga K "Sheet") "taken" (spF K 1 F_Sheet_taken) := by
  obtain ⟨fd, F⟩ := T.f_Sheet_taken
  exact met_fn (N := ["self", "row", "end"]) (g := B_Sheet_taken) (x := default) T.c_Sheet T.m_Sheet_taken F sc_Sheet_taken rfl (fun _ _ _ _ _ _ us hl => match us, hl with | [_], _ => rfl) fun cdv A outer s H E hr => by
    have nd := sc_Sheet_taken.nd
    exact (s_cons (s_set (i := 1) nd rfl (Or.inl rfl) (f_met0 C_Sheet_here (f_v 0 (pv 0)) hr (by decide) px))
  (s_cons (s_set (i := 2) nd rfl (Or.inl rfl) (f_get T.c_Sheet T.a_Sheet_column (f_v 0 (pv 0))))
  (s_cons (s_wh 1000 po (PW.pt (t_and (t_cmp o_Lt (f_v 2 (pv 2)) (f_B b_LenS (by rfl) T.n_len (by decide +kernel) (f_cons (f_v 1 (pv 1)) f_nil)) (nomark _)) (t_and1 (t_cmp o_InS (f_ix o_IxS (f_v 1 (pv 1)) (f_v 2 (pv 2)) (fun _ _ => rfl)) (f_gstr rfl T.n_LETTERS) (by rfl))))) (s_one (s_set (i := 2) nd rfl (Or.inl rfl) (f_bin o_Add (f_v 2 (pv 2)) f_int))))
  (s_cons (s_if (t_cmp o_Eq (f_v 2 (pv 2)) (f_get T.c_Sheet T.a_Sheet_column (f_v 0 (pv 0))) (nomark _))
    (s_one (s_ret f_bl))
    s_nil)
  (s_cons (s_fld' T.c_Sheet T.a_Sheet_held (f_v 0 (pv 0)) (f_sl l_S (f_v 1 (pv 1)) (x_some (f_get T.c_Sheet T.a_Sheet_column (f_v 0 (pv 0)))) (x_some (f_v 2 (pv 2)))))
  (s_cons (s_asg (f_bin o_AddS (f_sl l_S (f_v 1 (pv 1)) x_none (x_some (f_get T.c_Sheet T.a_Sheet_column (f_v 0 (pv 0))))) (f_sl l_S (f_v 1 (pv 1)) (x_some (f_v 2 (pv 2))) x_none)) (g_ix (f_get T.c_Sheet T.a_Sheet_rows (f_v 0 (pv 0))) (f_get T.c_Sheet T.a_Sheet_row (f_v 0 (pv 0)))))
  (s_one (s_ret f_bl))))))))
theorem sc_Sheet_found : FnScope ["self", "word", "start", "number", "column"] ["self", "word"] (defScope s_Sheet_found) := ⟨rfl, rfl, rfl, by decide +kernel, rfl, by decide +kernel, by decide +kernel⟩
theorem ok_Sheet_found (T : Tx K mg) (C_Sheet_go : Met P w K mg base 1 (He.ga K "Sheet") "go" (spF K 3 F_Sheet_go)) : Met P w K mg base 2 (He.ga K "Sheet") "found" (spF K 2 F_Sheet_found) := by
  obtain ⟨fd, F⟩ := T.f_Sheet_found
  exact met_fn (N := ["self", "word", "start", "number", "column"]) (g := B_Sheet_found) (x := default) T.c_Sheet T.m_Sheet_found F sc_Sheet_found rfl (fun _ _ _ _ _ _ us hl => match us, hl with | [_, _], _ => rfl) fun cdv A outer s H E hr => by
    have nd := sc_Sheet_found.nd
    exact (s_cons (s_set (i := 2) nd rfl (Or.inl rfl) (f_bin o_Add (f_get T.c_Sheet T.a_Sheet_column (f_v 0 (pv 0))) f_int))
  (s_cons (s_for' po rfl (i_rng2 (by rfl) T.n_range (f_cons (f_get T.c_Sheet T.a_Sheet_row (f_v 0 (pv 0))) (f_cons (f_B b_LenL (by rfl) T.n_len (by decide +kernel) (f_cons (f_get T.c_Sheet T.a_Sheet_rows (f_v 0 (pv 0))) f_nil)) f_nil))) (g_name (i := 3) nd rfl (Or.inl rfl))
    (s_cons (s_set (i := 4) nd rfl (Or.inl rfl) (f_find (f_ix o_Ix (f_get T.c_Sheet T.a_Sheet_rows (f_v 0 (pv 0))) (f_v 3 (pv 3)) (fun _ _ => rfl)) (f_cons (f_v 1 (pv 1)) (f_cons (f_v 2 (pv 2)) f_nil))))
    (s_cons (s_if (t_cmp o_Ge (f_v 4 (pv 4)) f_int (nomark _))
      (s_one (s_ret (f_met C_Sheet_go (f_v 0 (pv 0)) hr (by decide) px (f_cons (f_v 3 (pv 3)) (f_cons (f_v 4 (pv 4)) f_nil)))))
      s_nil)
    (s_one (s_set (i := 2) nd rfl (Or.inl rfl) f_int)))))
  (s_one (s_ret f_bl))))
theorem sc_Sheet_moved : FnScope ["self", "word", "row", "number"] ["self", "word"] (defScope s_Sheet_moved) := ⟨rfl, rfl, rfl, by decide +kernel, rfl, by decide +kernel, by decide +kernel⟩
theorem ok_Sheet_moved (T : Tx K mg) (C_Sheet_here : Met P w K mg base 1 (He.ga K "Sheet") "here" (spF K 1 F_Sheet_here)) (C_Sheet_go : Met P w K mg base 1 (He.ga K "Sheet") "go" (spF K 3 F_Sheet_go)) : Met P w K mg base 2 (He.ga K "Sheet") "moved" (spF K 2 F_Sheet_moved) := by
  obtain ⟨fd, F⟩ := T.f_Sheet_moved
  exact met_fn (N := ["self", "word", "row", "number"]) (g := B_Sheet_moved) (x := default) T.c_Sheet T.m_Sheet_moved F sc_Sheet_moved rfl (fun _ _ _ _ _ _ us hl => match us, hl with | [_, _], _ => rfl) fun cdv A outer s H E hr => by
    have nd := sc_Sheet_moved.nd
    exact (s_cons (s_set (i := 2) nd rfl (Or.inl rfl) (f_met0 C_Sheet_here (f_v 0 (pv 0)) hr (by decide) px))
  (s_cons (s_if (PW.pt (t_or (t_cmp o_Eq (f_v 1 (pv 1)) f_str (nomark _)) (t_or1 (t_cmp o_Eq (f_v 1 (pv 1)) f_str (nomark _)))))
    (s_one (s_ret (f_met C_Sheet_go (f_v 0 (pv 0)) hr (by decide) px (f_cons (f_get T.c_Sheet T.a_Sheet_row (f_v 0 (pv 0))) (f_cons (f_if (t_cmp o_Eq (f_v 1 (pv 1)) f_str (nomark _)) f_int (f_B b_LenS (by rfl) T.n_len (by decide +kernel) (f_cons (f_v 2 (pv 2)) f_nil))) f_nil)))))
    s_nil)
  (s_cons (s_if (PW.pt (t_and (t_cmp o_Eq (f_v 1 (pv 1)) f_str (nomark _)) (t_and1 (t_cmp o_Gt (f_get T.c_Sheet T.a_Sheet_column (f_v 0 (pv 0))) f_int (nomark _)))))
    (s_one (s_ret (f_met C_Sheet_go (f_v 0 (pv 0)) hr (by decide) px (f_cons (f_get T.c_Sheet T.a_Sheet_row (f_v 0 (pv 0))) (f_cons (f_bin o_Sub (f_get T.c_Sheet T.a_Sheet_column (f_v 0 (pv 0))) f_int) f_nil)))))
    s_nil)
  (s_cons (s_if (PW.pt (t_and (t_cmp o_Eq (f_v 1 (pv 1)) f_str (nomark _)) (t_and1 (t_cmp o_Lt (f_get T.c_Sheet T.a_Sheet_column (f_v 0 (pv 0))) (f_B b_LenS (by rfl) T.n_len (by decide +kernel) (f_cons (f_v 2 (pv 2)) f_nil)) (nomark _)))))
    (s_one (s_ret (f_met C_Sheet_go (f_v 0 (pv 0)) hr (by decide) px (f_cons (f_get T.c_Sheet T.a_Sheet_row (f_v 0 (pv 0))) (f_cons (f_bin o_Add (f_get T.c_Sheet T.a_Sheet_column (f_v 0 (pv 0))) f_int) f_nil)))))
    s_nil)
  (s_cons (s_set (i := 3) nd rfl (Or.inl rfl) (f_bin o_Add (f_get T.c_Sheet T.a_Sheet_row (f_v 0 (pv 0))) (f_if (t_cmp o_In (f_v 1 (pv 1)) (f_tup (f_cons f_str (f_cons f_str f_nil))) (by rfl)) f_int (f_un o_Neg f_int))))
  (s_cons (s_if (t_not (t_chain o_Le o_Lt f_int (f_v 3 (pv 3)) (f_B b_LenL (by rfl) T.n_len (by decide +kernel) (f_cons (f_get T.c_Sheet T.a_Sheet_rows (f_v 0 (pv 0))) f_nil))))
    (s_one (s_ret f_bl))
    s_nil)
  (s_cons (s_if (t_cmp o_In (f_v 1 (pv 1)) (f_tup (f_cons f_str (f_cons f_str f_nil))) (by rfl))
    (s_one (s_ret (f_met C_Sheet_go (f_v 0 (pv 0)) hr (by decide) px (f_cons (f_v 3 (pv 3)) (f_cons (f_if (t_cmp o_Eq (f_v 1 (pv 1)) f_str (nomark _)) f_int (f_B b_LenS (by rfl) T.n_len (by decide +kernel) (f_cons (f_ix o_Ix (f_get T.c_Sheet T.a_Sheet_rows (f_v 0 (pv 0))) (f_v 3 (pv 3)) (fun _ _ => rfl)) f_nil))) f_nil)))))
    s_nil)
  (s_one (s_ret (f_met C_Sheet_go (f_v 0 (pv 0)) hr (by decide) px (f_cons (f_v 3 (pv 3)) (f_cons (f_B (b_Min rfl) (by rfl) T.n_min (by decide +kernel) (f_cons (f_get T.c_Sheet T.a_Sheet_column (f_v 0 (pv 0))) (f_cons (f_B b_LenS (by rfl) T.n_len (by decide +kernel) (f_cons (f_ix o_Ix (f_get T.c_Sheet T.a_Sheet_rows (f_v 0 (pv 0))) (f_v 3 (pv 3)) (fun _ _ => rfl)) f_nil)) f_nil))) f_nil))))))))))))
theorem sc_Sheet_do : FnScope ["self", "key", "word"] ["self", "key"] (defScope s_Sheet_do) := ⟨rfl, rfl, rfl, by decide +kernel, rfl, by decide +kernel, by decide +kernel⟩
theorem ok_Sheet_do (T : Tx K mg) (C_Sheet_lay : Met P w K mg base 2 (He.ga K "Sheet") "lay" (spF K 2 F_Sheet_lay)) (C_Sheet_parted : Met P w K mg base 2 (He.ga K "Sheet") "parted" (spF K 1 F_Sheet_parted)) (C_Sheet_rubbed : Met P w K mg base 2 (He.ga K "Sheet") "rubbed" (spF K 1 F_Sheet_rubbed)) (C_Sheet_taken : Met P w K mg base 2 (He.ga K "Sheet") "taken" (spF K 1 F_Sheet_taken)) (C_Sheet_found : Met P w K mg base 2 (He.ga K "Sheet") "found" (spF K 2 F_Sheet_found)) (C_Sheet_moved : Met P w K mg base 2 (He.ga K "Sheet") "moved" (spF K 2 F_Sheet_moved)) : Met P w K mg base 3 (He.ga K "Sheet") "do" (spF K 2 F_Sheet_do) := by
  obtain ⟨fd, F⟩ := T.f_Sheet_do
  exact met_fn (N := ["self", "key", "word"]) (g := B_Sheet_do) (x := default) T.c_Sheet T.m_Sheet_do F sc_Sheet_do rfl (fun _ _ _ _ _ _ us hl => match us, hl with | [_, _], _ => rfl) fun cdv A outer s H E hr => by
    have nd := sc_Sheet_do.nd
    exact (s_cons (s_set (i := 2) nd rfl (Or.inl rfl) (f_ix o_IxT (f_v 1 (pv 1)) f_int (fun _ _ => rfl)))
  (s_cons (s_if (t_cmp o_Eq (f_v 2 (pv 2)) f_str (nomark _))
    (s_one (s_ret (f_met C_Sheet_lay (f_v 0 (pv 0)) hr (by decide) px (f_cons (f_ix o_IxT (f_v 1 (pv 1)) f_int (fun _ _ => rfl)) f_nil))))
    s_nil)
  (s_cons (s_if (t_cmp o_Eq (f_v 2 (pv 2)) f_str (nomark _))
    (s_one (s_ret (f_and (f_cmp o_Ne (f_get T.c_Sheet T.a_Sheet_held (f_v 0 (pv 0))) f_str (nomark _)) (f_one (f_met C_Sheet_lay (f_v 0 (pv 0)) hr (by decide) px (f_cons (f_get T.c_Sheet T.a_Sheet_held (f_v 0 (pv 0))) f_nil))))))
    s_nil)
  (s_cons (s_if (t_cmp o_Eq (f_v 2 (pv 2)) f_str (nomark _))
    (s_one (s_ret (f_met0 C_Sheet_parted (f_v 0 (pv 0)) hr (by decide) px)))
    s_nil)
  (s_cons (s_if (t_cmp o_Eq (f_v 2 (pv 2)) f_str (nomark _))
    (s_one (s_ret (f_met0 C_Sheet_rubbed (f_v 0 (pv 0)) hr (by decide) px)))
    s_nil)
  (s_cons (s_if (t_cmp o_Eq (f_v 2 (pv 2)) f_str (nomark _))
    (s_one (s_ret (f_met0 C_Sheet_taken (f_v 0 (pv 0)) hr (by decide) px)))
    s_nil)
  (s_cons (s_if (t_cmp o_Eq (f_v 2 (pv 2)) f_str (nomark _))
    (s_one (s_ret (f_met C_Sheet_found (f_v 0 (pv 0)) hr (by decide) px (f_cons (f_ix o_IxT (f_v 1 (pv 1)) f_int (fun _ _ => rfl)) f_nil))))
    s_nil)
  (s_one (s_ret (f_met C_Sheet_moved (f_v 0 (pv 0)) hr (by decide) px (f_cons (f_v 2 (pv 2)) f_nil)))))))))))
theorem sc_Player_init : FnScope ["self", "sheet", "tapes"] ["self", "sheet", "tapes"] (defScope s_Player_init) := ⟨rfl, rfl, rfl, by decide +kernel, rfl, by decide +kernel, by decide +kernel⟩
theorem ok_Player_init (T : Tx K mg) : Mak P w K mg base 1 "Player" (He.ga K "Player") (spF K 3 F_Player_init) := by
  obtain ⟨fd, F⟩ := T.f_Player_init
  exact mak_fn (N := ["self", "sheet", "tapes"]) (g := B_Player_init) T.k_Player T.n_Player F sc_Player_init rfl (fun _ _ _ _ _ _ us hl => match us, hl with | [_, _, _], _ => rfl) fun cdv A outer s H E hr => by
    have nd := sc_Player_init.nd
    exact (s_cons (s_fld' T.c_Player T.a_Player_sheet (f_v 0 (pv 0)) (f_v 1 (pv 1)))
  (s_cons (s_fld' T.c_Player T.a_Player_tapes (f_v 0 (pv 0)) (f_v 2 (pv 2)))
  (s_cons (s_fld' T.c_Player T.a_Player_many (f_v 0 (pv 0)) f_int)
  (s_one (s_fld' T.c_Player T.a_Player_strokes (f_v 0 (pv 0)) (f_Bx (f_lst f_nil)))))))
theorem sc_Player_count : FnScope ["self"] ["self"] (defScope s_Player_count) := ⟨rfl, rfl, rfl, by decide +kernel, rfl, by decide +kernel, by decide +kernel⟩
theorem ok_Player_count (T : Tx K mg) : Met P w K mg base 1 (He.ga K "Player") "count" (spF K 1 F_Player_count) := by
  obtain ⟨fd, F⟩ := T.f_Player_count
  exact met_fn (N := ["self"]) (g := B_Player_count) (x := default) T.c_Player T.m_Player_count F sc_Player_count rfl (fun _ _ _ _ _ _ us hl => match us, hl with | [_], _ => rfl) fun cdv A outer s H E hr => by
    have nd := sc_Player_count.nd
    exact (s_cons (s_fld' T.c_Player T.a_Player_many (f_v 0 (pv 0)) (f_bin o_Add (f_get T.c_Player T.a_Player_many (f_v 0 (pv 0))) f_int))
  (s_one (s_if (t_cmp o_Gt (f_get T.c_Player T.a_Player_many (f_v 0 (pv 0))) (f_gint rfl T.n_MOST_THINGS) (nomark _))
    (s_one (s_raise (by rfl) (by exact (takes_of rfl rfl rfl rfl)) T.e_TooLong T.n_TooLong (by rfl)))
    s_nil)))
theorem sc_Player_once : FnScope ["self", "tape", "deep", "key"] ["self", "tape", "deep"] (defScope s_Player_once) := ⟨rfl, rfl, rfl, by decide +kernel, rfl, by decide +kernel, by decide +kernel⟩
theorem ok1_Player_once {k : Nat} {Fk : FF} (hk : 9 ≤ k) (T : Tx K mg) (C_Player_count : Met P w K mg base 1 (He.ga K "Player") "count" (spF K 1 F_Player_count)) (C_Player_key : Met P w K mg base k (He.ga K "Player") "key" (spF K 3 Fk)) : Met P w K mg base (k + 1) (He.ga K "Player") "once" (spF K 3 (F_Player_once Fk)) := by
  obtain ⟨fd, F⟩ := T.f_Player_once
  exact met_fn (N := ["self", "tape", "deep", "key"]) (g := B_Player_once Fk) (x := default) T.c_Player T.m_Player_once F sc_Player_once rfl (fun _ _ _ _ _ _ us hl => match us, hl with | [_, _, _], _ => rfl) fun cdv A outer s H E hr => by
    have nd := sc_Player_once.nd
    exact (s_cons (s_expr (f_met0 C_Player_count (f_v 0 (pv 0)) hr (by omega) px))
  (s_cons (s_for' po rfl (i_tup (f_v 1 (pv 1))) (g_name (i := 3) nd rfl (Or.inl rfl))
    (s_one (s_if (t_not (t_val (f_met C_Player_key (f_v 0 (pv 0)) hr (by omega) px (f_cons (f_v 3 (pv 3)) (f_cons (f_v 2 (pv 2)) f_nil)))))
      (s_one (s_ret f_bl))
      s_nil)))
  (s_one (s_ret f_bl))))
theorem sc_Player_played : FnScope ["self", "key", "deep", "tape", "turn"] ["self", "key", "deep"] (defScope s_Player_played) := ⟨rfl, rfl, rfl, by decide +kernel, rfl, by decide +kernel, by decide +kernel⟩
theorem ok1_Player_played {k : Nat} {Fo : FF} (hk : 9 ≤ k) (T : Tx K mg) (C_Player_once : Met P w K mg base k (He.ga K "Player") "once" (spF K 3 Fo)) : Met P w K mg base (k + 1) (He.ga K "Player") "played" (spF K 3 (F_Player_played Fo)) := by
  obtain ⟨fd, F⟩ := T.f_Player_played
  exact met_fn (N := ["self", "key", "deep", "tape", "turn"]) (g := B_Player_played Fo) (x := default) T.c_Player T.m_Player_played F sc_Player_played rfl (fun _ _ _ _ _ _ us hl => match us, hl with | [_, _, _], _ => rfl) fun cdv A outer s H E hr => by
    have nd := sc_Player_played.nd
    exact (s_cons (s_set (i := 3) nd rfl (Or.inl rfl) (f_dget (hu1_of hr) (f_get T.c_Player T.a_Player_tapes (f_v 0 (pv 0))) (f_ix o_IxT (f_v 1 (pv 1)) f_int (fun _ _ => rfl)) (f_tup f_nil) ⟨rfl, rfl, rfl, rfl⟩))
  (s_cons (s_if (t_cmp o_Eq (f_ix o_IxT (f_v 1 (pv 1)) f_int (fun _ _ => rfl)) f_str (nomark _))
    (s_cons (s_wh 1000 po (t_val (f_met C_Player_once (f_v 0 (pv 0)) hr (by omega) px (f_cons (f_v 3 (pv 3)) (f_cons (f_v 2 (pv 2)) f_nil)))) (s_one s_pass))
    (s_one (s_ret f_bl)))
    s_nil)
  (s_cons (s_for' po rfl (i_rng1 (by rfl) T.n_range (f_cons (f_ix o_IxT (f_v 1 (pv 1)) f_int (fun _ _ => rfl)) f_nil)) (g_name (i := 4) nd rfl (Or.inl rfl))
    (s_one (s_if (t_not (t_val (f_met C_Player_once (f_v 0 (pv 0)) hr (by omega) px (f_cons (f_v 3 (pv 3)) (f_cons (f_v 2 (pv 2)) f_nil)))))
      (s_one (s_ret f_bl))
      s_nil)))
  (s_one (s_ret f_bl)))))
theorem sc_Player_key : FnScope ["self", "key", "deep", "fits"] ["self", "key", "deep"] (defScope s_Player_key) := ⟨rfl, rfl, rfl, by decide +kernel, rfl, by decide +kernel, by decide +kernel⟩
theorem ok1_Player_key {k : Nat} {Fp : FF} (hk : 9 ≤ k) (T : Tx K mg) (C_Player_count : Met P w K mg base 1 (He.ga K "Player") "count" (spF K 1 F_Player_count)) (C_Sheet_do : Met P w K mg base 3 (He.ga K "Sheet") "do" (spF K 2 F_Sheet_do)) (C_Player_played : Met P w K mg base k (He.ga K "Player") "played" (spF K 3 Fp)) : Met P w K mg base (k + 1) (He.ga K "Player") "key" (spF K 3 (F_Player_key Fp)) := by
  obtain ⟨fd, F⟩ := T.f_Player_key
  exact met_fn (N := ["self", "key", "deep", "fits"]) (g := B_Player_key Fp) (x := default) T.c_Player T.m_Player_key F sc_Player_key rfl (fun _ _ _ _ _ _ us hl => match us, hl with | [_, _, _], _ => rfl) fun cdv A outer s H E hr => by
    have nd := sc_Player_key.nd
    exact (s_cons (s_expr (f_met0 C_Player_count (f_v 0 (pv 0)) hr (by omega) px))
  (s_cons (s_if (t_cmp o_In (f_ix o_IxT (f_v 1 (pv 1)) f_int (fun _ _ => rfl)) (f_tup (f_cons f_str (f_cons f_str f_nil))) (by rfl))
    (s_one (s_ret (f_and (f_cmp o_Lt (f_v 2 (pv 2)) (f_gint rfl T.n_MOST_DEEP) (nomark _)) (f_one (f_met C_Player_played (f_v 0 (pv 0)) hr (by omega) px (f_cons (f_v 1 (pv 1)) (f_cons (f_bin o_Add (f_v 2 (pv 2)) f_int) f_nil)))))))
    s_nil)
  (s_cons (s_set (i := 3) nd rfl (Or.inl rfl) (f_met C_Sheet_do (f_get T.c_Player T.a_Player_sheet (f_v 0 (pv 0))) hr (by omega) px (f_cons (f_v 1 (pv 1)) f_nil)))
  (s_cons (s_if (t_val (f_v 3 (pv 3)))
    (s_one (s_expr (f_lm PySem.F.slot_list_append PySem.F.type_list_append m_Append (f_get T.c_Player T.a_Player_strokes (f_v 0 (pv 0))) (f_cons (f_v 1 (pv 1)) f_nil))))
    s_nil)
  (s_one (s_ret (f_v 3 (pv 3))))))))
theorem ok_Player_keyN (T : Tx K mg) (C_Player_count : Met P w K mg base 1 (He.ga K "Player") "count" (spF K 1 F_Player_count)) (C_Sheet_do : Met P w K mg base 3 (He.ga K "Sheet") "do" (spF K 2 F_Sheet_do)) : ∀ n : Nat, Met P w K mg base (10 + 3 * n) (He.ga K "Player") "key" (spF K 3 (F_Player_keyN n))
  | 0 => by
    obtain ⟨fd, F⟩ := T.f_Player_key
    exact met_fn (N := ["self", "key", "deep", "fits"]) (g := sNo) (x := default) T.c_Player T.m_Player_key F sc_Player_key rfl (fun _ _ _ _ _ _ us hl => match us, hl with | [_, _, _], _ => rfl) fun cdv A outer s H E hr => pss_no
  | n + 1 => by
    have h1 := ok_Player_keyN T C_Player_count C_Sheet_do n
    have h2 := ok1_Player_once (k := 10 + 3 * n) (by omega) T C_Player_count h1
    have h3 := ok1_Player_played (k := 10 + 3 * n + 1) (by omega) T  h2
    exact ok1_Player_key (k := 10 + 3 * n + 2) (by omega) T C_Player_count C_Sheet_do h3
theorem ok_Player_key (T : Tx K mg) (C_Player_count : Met P w K mg base 1 (He.ga K "Player") "count" (spF K 1 F_Player_count)) (C_Sheet_do : Met P w K mg base 3 (He.ga K "Sheet") "do" (spF K 2 F_Sheet_do)) : Met P w K mg base 76 (He.ga K "Player") "key" (spF K 3 (F_Player_keyN 22)) := ok_Player_keyN T C_Player_count C_Sheet_do 22
theorem sc_Editor_init : FnScope ["self", "text"] ["self", "text"] (defScope s_Editor_init) := ⟨rfl, rfl, rfl, by decide +kernel, rfl, by decide +kernel, by decide +kernel⟩
theorem ok_Editor_init (T : Tx K mg) (C_need_text : Cal P w K mg base 2 "need_text" (spF K 1 F_need_text)) (C_Sheet : Mak P w K mg base 1 "Sheet" (He.ga K "Sheet") (spF K 5 F_Sheet_init)) : Mak P w K mg base 3 "Editor" (He.ga K "Editor") (spF K 2 F_Editor_init) := by
  obtain ⟨fd, F⟩ := T.f_Editor_init
  exact mak_fn (N := ["self", "text"]) (g := B_Editor_init) T.k_Editor T.n_Editor F sc_Editor_init rfl (fun _ _ _ _ _ _ us hl => match us, hl with | [_, _], _ => rfl) fun cdv A outer s H E hr => by
    have nd := sc_Editor_init.nd
    exact (s_cons (s_expr (f_call C_need_text hr (by decide) rfl px (f_cons (f_v 1 (pv 1)) f_nil)))
  (s_cons (s_fld' T.c_Editor T.a_Editor_sheet (f_v 0 (pv 0)) (f_mak C_Sheet hr (by decide) rfl px (f_cons (f_F (f_split (f_v 1 (pv 1)) f_str)) (f_cons f_int (f_cons f_int (f_cons f_str f_nil))))))
  (s_cons (s_fld' T.c_Editor T.a_Editor_tapes (f_v 0 (pv 0)) f_dict0)
  (s_cons (s_fld' T.c_Editor T.a_Editor_past (f_v 0 (pv 0)) (f_Bx (f_lst f_nil)))
  (s_cons (s_fld' T.c_Editor T.a_Editor_future (f_v 0 (pv 0)) (f_Bx (f_lst f_nil)))
  (s_cons (s_fld' T.c_Editor T.a_Editor_taping (f_v 0 (pv 0)) f_non)
  (s_one (s_fld' T.c_Editor T.a_Editor_taped (f_v 0 (pv 0)) (f_Bx (f_lst f_nil))))))))))
theorem sc_Editor_press : FnScope ["self", "key", "ahead", "behind", "fits"] ["self", "key"] (defScope s_Editor_press) := ⟨rfl, rfl, rfl, by decide +kernel, rfl, by decide +kernel, by decide +kernel⟩
theorem ok_Editor_press (T : Tx K mg) (C_need_key : Cal P w K mg base 3 "need_key" (spF K 1 F_need_key)) (C_Sheet_copied : Met P w K mg base 3 (He.ga K "Sheet") "copied" (spF K 1 F_Sheet_copied)) (C_Player_key : Met P w K mg base 76 (He.ga K "Player") "key" (spF K 3 (F_Player_keyN 22))) (C_Player : Mak P w K mg base 1 "Player" (He.ga K "Player") (spF K 3 F_Player_init)) : Met P w K mg base 77 (He.ga K "Editor") "press" (spF K 2 F_Editor_press) := by
  obtain ⟨fd, F⟩ := T.f_Editor_press
  exact met_fn (N := ["self", "key", "ahead", "behind", "fits"]) (g := B_Editor_press) (x := default) T.c_Editor T.m_Editor_press F sc_Editor_press rfl (fun _ _ _ _ _ _ us hl => match us, hl with | [_, _], _ => rfl) fun cdv A outer s H E hr => by
    have nd := sc_Editor_press.nd
    exact (s_cons (s_expr (f_call C_need_key hr (by decide) rfl px (f_cons (f_v 1 (pv 1)) f_nil)))
  (s_cons (s_set (i := 2) nd rfl (Or.inl rfl) (f_met0 C_Sheet_copied (f_get T.c_Editor T.a_Editor_sheet (f_v 0 (pv 0))) hr (by decide) px))
  (s_cons (s_set (i := 3) nd rfl (Or.inl rfl) (f_met0 C_Sheet_copied (f_get T.c_Editor T.a_Editor_sheet (f_v 0 (pv 0))) hr (by decide) px))
  (s_cons (s_set (i := 4) nd rfl (Or.inl rfl) (f_met C_Player_key (f_mak C_Player hr (by decide) rfl px (f_cons (f_v 3 (pv 3)) (f_cons (f_get T.c_Editor T.a_Editor_tapes (f_v 0 (pv 0))) f_nil))) hr (by decide) px (f_cons (f_v 1 (pv 1)) (f_cons f_int f_nil))))
  (s_cons (s_fld' T.c_Editor T.a_Editor_sheet (f_v 0 (pv 0)) (f_v 3 (pv 3)))
  (s_cons (s_if (t_cmp (o_NeD hr.units) (f_get T.c_Sheet T.a_Sheet_rows (f_v 3 (pv 3))) (f_get T.c_Sheet T.a_Sheet_rows (f_v 2 (pv 2))) (nomark _))
    (s_cons (s_expr (f_lm PySem.F.slot_list_append PySem.F.type_list_append m_Append (f_get T.c_Editor T.a_Editor_past (f_v 0 (pv 0))) (f_cons (f_tup (f_cons (f_v 2 (pv 2)) (f_cons (f_met0 C_Sheet_copied (f_v 3 (pv 3)) hr (by decide) px) f_nil))) f_nil)))
    (s_one (s_fld' T.c_Editor T.a_Editor_future (f_v 0 (pv 0)) (f_Bx (f_lst f_nil)))))
    s_nil)
  (s_cons (s_if (t_cmp o_NotN (f_get T.c_Editor T.a_Editor_taping (f_v 0 (pv 0))) f_non (nomark _))
    (s_one (s_expr (f_lm PySem.F.slot_list_append PySem.F.type_list_append m_Append (f_get T.c_Editor T.a_Editor_taped (f_v 0 (pv 0))) (f_cons (f_v 1 (pv 1)) f_nil))))
    s_nil)
  (s_one (s_ret (f_v 4 (pv 4)))))))))))
theorem sc_Editor_tape : FnScope ["self", "name", "keys"] ["self", "name", "keys"] (defScope s_Editor_tape) := ⟨rfl, rfl, rfl, by decide +kernel, rfl, by decide +kernel, by decide +kernel⟩
theorem ok_Editor_tape (T : Tx K mg) (C_need_name : Cal P w K mg base 2 "need_name" (spF K 1 F_need_name)) (C_need_keys : Cal P w K mg base 3 "need_keys" (spF K 2 F_need_keys)) : Met P w K mg base 4 (He.ga K "Editor") "tape" (spF K 3 F_Editor_tape) := by
  obtain ⟨fd, F⟩ := T.f_Editor_tape
  exact met_fn (N := ["self", "name", "keys"]) (g := B_Editor_tape) (x := default) T.c_Editor T.m_Editor_tape F sc_Editor_tape rfl (fun _ _ _ _ _ _ us hl => match us, hl with | [_, _, _], _ => rfl) fun cdv A outer s H E hr => by
    have nd := sc_Editor_tape.nd
    exact (s_cons (s_expr (f_call C_need_name hr (by decide) rfl px (f_cons (f_v 1 (pv 1)) f_nil)))
  (s_cons (s_expr (f_call C_need_keys hr (by decide) rfl px (f_cons (f_v 2 (pv 2)) (f_cons (f_gint rfl T.n_MOST_KEYS) f_nil))))
  (s_one (s_dput' (hu1_of hr) (f_get T.c_Editor T.a_Editor_tapes (f_v 0 (pv 0))) (f_v 1 (pv 1)) (f_v 2 (pv 2))))))
theorem sc_Editor_hand : FnScope ["self", "key", "player"] ["self", "key"] (defScope s_Editor_hand) := ⟨rfl, rfl, rfl, by decide +kernel, rfl, by decide +kernel, by decide +kernel⟩
theorem ok_Editor_hand (T : Tx K mg) (C_need_key : Cal P w K mg base 3 "need_key" (spF K 1 F_need_key)) (C_Player : Mak P w K mg base 1 "Player" (He.ga K "Player") (spF K 3 F_Player_init)) (C_Sheet_copied : Met P w K mg base 3 (He.ga K "Sheet") "copied" (spF K 1 F_Sheet_copied)) (C_Player_key : Met P w K mg base 76 (He.ga K "Player") "key" (spF K 3 (F_Player_keyN 22))) : Met P w K mg base 77 (He.ga K "Editor") "hand" (spF K 2 F_Editor_hand) := by
  obtain ⟨fd, F⟩ := T.f_Editor_hand
  exact met_fn (N := ["self", "key", "player"]) (g := B_Editor_hand) (x := default) T.c_Editor T.m_Editor_hand F sc_Editor_hand rfl (fun _ _ _ _ _ _ us hl => match us, hl with | [_, _], _ => rfl) fun cdv A outer s H E hr => by
    have nd := sc_Editor_hand.nd
    exact (s_cons (s_expr (f_call C_need_key hr (by decide) rfl px (f_cons (f_v 1 (pv 1)) f_nil)))
  (s_cons (s_set (i := 2) nd rfl (Or.inl rfl) (f_mak C_Player hr (by decide) rfl px (f_cons (f_met0 C_Sheet_copied (f_get T.c_Editor T.a_Editor_sheet (f_v 0 (pv 0))) hr (by decide) px) (f_cons (f_get T.c_Editor T.a_Editor_tapes (f_v 0 (pv 0))) f_nil))))
  (s_cons (s_expr (f_met C_Player_key (f_v 2 (pv 2)) hr (by decide) px (f_cons (f_v 1 (pv 1)) (f_cons f_int f_nil))))
  (s_one (s_ret (f_get T.c_Player T.a_Player_strokes (f_v 2 (pv 2))))))))
theorem sc_Editor_text : FnScope ["self"] ["self"] (defScope s_Editor_text) := ⟨rfl, rfl, rfl, by decide +kernel, rfl, by decide +kernel, by decide +kernel⟩
theorem ok_Editor_text (T : Tx K mg) : Met P w K mg base 1 (He.ga K "Editor") "text" (spF K 1 F_Editor_text) := by
  obtain ⟨fd, F⟩ := T.f_Editor_text
  exact met_fn (N := ["self"]) (g := B_Editor_text) (x := default) T.c_Editor T.m_Editor_text F sc_Editor_text rfl (fun _ _ _ _ _ _ us hl => match us, hl with | [_], _ => rfl) fun cdv A outer s H E hr => by
    have nd := sc_Editor_text.nd
    exact (s_one (s_ret (f_join f_str (f_get T.c_Sheet T.a_Sheet_rows (f_get T.c_Editor T.a_Editor_sheet (f_v 0 (pv 0)))))))
theorem sc_Editor_place : FnScope ["self"] ["self"] (defScope s_Editor_place) := ⟨rfl, rfl, rfl, by decide +kernel, rfl, by decide +kernel, by decide +kernel⟩
theorem ok_Editor_place (T : Tx K mg) : Met P w K mg base 1 (He.ga K "Editor") "place" (spF K 1 F_Editor_place) := by
  obtain ⟨fd, F⟩ := T.f_Editor_place
  exact met_fn (N := ["self"]) (g := B_Editor_place) (x := default) T.c_Editor T.m_Editor_place F sc_Editor_place rfl (fun _ _ _ _ _ _ us hl => match us, hl with | [_], _ => rfl) fun cdv A outer s H E hr => by
    have nd := sc_Editor_place.nd
    exact (s_one (s_ret (f_tup (f_cons (f_get T.c_Sheet T.a_Sheet_row (f_get T.c_Editor T.a_Editor_sheet (f_v 0 (pv 0)))) (f_cons (f_get T.c_Sheet T.a_Sheet_column (f_get T.c_Editor T.a_Editor_sheet (f_v 0 (pv 0)))) f_nil)))))
theorem sc_Editor_clip : FnScope ["self"] ["self"] (defScope s_Editor_clip) := ⟨rfl, rfl, rfl, by decide +kernel, rfl, by decide +kernel, by decide +kernel⟩
theorem ok_Editor_clip (T : Tx K mg) : Met P w K mg base 1 (He.ga K "Editor") "clip" (spF K 1 F_Editor_clip) := by
  obtain ⟨fd, F⟩ := T.f_Editor_clip
  exact met_fn (N := ["self"]) (g := B_Editor_clip) (x := default) T.c_Editor T.m_Editor_clip F sc_Editor_clip rfl (fun _ _ _ _ _ _ us hl => match us, hl with | [_], _ => rfl) fun cdv A outer s H E hr => by
    have nd := sc_Editor_clip.nd
    exact (s_one (s_ret (f_get T.c_Sheet T.a_Sheet_held (f_get T.c_Editor T.a_Editor_sheet (f_v 0 (pv 0))))))
theorem sc_law_mix : FnScope ["_law_script", "_law_seed", "_law_mixed", "_law_cell"] ["_law_script", "_law_seed"] (defScope s_law_mix) := ⟨rfl, rfl, rfl, by decide +kernel, rfl, by decide +kernel, by decide +kernel⟩
theorem ok_law_mix (T : Tx K mg) : Cal P w K mg base 1 "_law_mix" (spF K 2 F_law_mix) := by
  obtain ⟨fd, F⟩ := T.f_law_mix
  exact cal_fn (N := ["_law_script", "_law_seed", "_law_mixed", "_law_cell"]) (g := B_law_mix) F T.n__law_mix sc_law_mix rfl (fun _ _ _ _ _ _ us hl => match us, hl with | [_, _], _ => rfl) fun cdv A outer s H E hr => by
    have nd := sc_law_mix.nd
    exact (s_cons (s_set (i := 2) nd rfl (Or.inl rfl) (f_v 1 (pv 1)))
  (s_cons (s_for' po rfl (i_list (f_v 0 (pv 0))) (g_name (i := 3) nd rfl (Or.inl rfl))
    (s_one (s_set (i := 2) nd rfl (Or.inl rfl) (f_bin o_Mod (f_bin o_Add (f_bin o_Add (f_bin o_Mul (f_v 2 (pv 2)) f_int) (f_bin o_Mod (f_v 3 (pv 3)) f_int)) f_int) f_int))))
  (s_one (s_ret (f_Bx (f_lst (f_cons (f_v 2 (pv 2)) (f_cons (f_Bx (f_Ty b_List (by rfl) T.n_list (by decide +kernel) (f_cons (f_v 0 (pv 0)) f_nil))) (f_cons f_int f_nil)))))))))
theorem sc_law_next : FnScope ["_law_h", "_law_many", "_law_at", "_law_cell"] ["_law_h", "_law_many"] (defScope s_law_next) := ⟨rfl, rfl, rfl, by decide +kernel, rfl, by decide +kernel, by decide +kernel⟩
theorem ok_law_next (T : Tx K mg) : Cal P w K mg base 1 "_law_next" (spF K 2 F_law_next) := by
  obtain ⟨fd, F⟩ := T.f_law_next
  exact cal_fn (N := ["_law_h", "_law_many", "_law_at", "_law_cell"]) (g := B_law_next) F T.n__law_next sc_law_next rfl (fun _ _ _ _ _ _ us hl => match us, hl with | [_, _], _ => rfl) fun cdv A outer s H E hr => by
    have nd := sc_law_next.nd
    exact (s_cons (s_set (i := 2) nd rfl (Or.inl rfl) (f_bin o_Mod (f_ix o_Ix (f_v 0 (pv 0)) f_int (fun _ _ => rfl)) (f_B (b_Max rfl) (by rfl) T.n_max (by decide +kernel) (f_cons f_int (f_cons (f_B b_LenL (by rfl) T.n_len (by decide +kernel) (f_cons (f_ix o_Ix (f_v 0 (pv 0)) f_int (fun _ _ => rfl)) f_nil)) f_nil)))))
  (s_cons (s_set (i := 3) nd rfl (Or.inl rfl) (f_if (t_cmp (o_NNil hr.units0) (f_ix o_Ix (f_v 0 (pv 0)) f_int (fun _ _ => rfl)) (f_F (f_lst f_nil)) (nomark _)) (f_ix o_Ix (f_ix o_Ix (f_v 0 (pv 0)) f_int (fun _ _ => rfl)) (f_v 2 (pv 2)) (fun _ _ => rfl)) f_int))
  (s_cons (s_if (t_cmp o_Ge (f_v 3 (pv 3)) (f_bin o_Pow f_int f_int) (nomark _))
    (s_cons (s_asg (f_bin o_Div (f_v 3 (pv 3)) (f_v 1 (pv 1))) (g_ix (f_ix o_Ix (f_v 0 (pv 0)) f_int (fun _ _ => rfl)) (f_v 2 (pv 2))))
    (s_one (s_ret (f_bin o_Mod (f_v 3 (pv 3)) (f_v 1 (pv 1))))))
    s_nil)
  (s_cons (s_asg (f_bin o_Mod (f_bin o_Add (f_bin o_Add (f_bin o_Mul (f_ix o_Ix (f_v 0 (pv 0)) f_int (fun _ _ => rfl)) f_int) (f_bin o_Mul (f_v 3 (pv 3)) f_int)) f_int) f_int) (g_ix (f_v 0 (pv 0)) f_int))
  (s_cons (s_asg (f_bin o_Add (f_ix o_Ix (f_v 0 (pv 0)) f_int (fun _ _ => rfl)) f_int) (g_ix (f_v 0 (pv 0)) f_int))
  (s_one (s_ret (f_bin o_Mod (f_bin o_Div (f_ix o_Ix (f_v 0 (pv 0)) f_int (fun _ _ => rfl)) f_int) (f_v 1 (pv 1))))))))))
theorem sc_law_sign : FnScope ["_law_h", "_law_every"] ["_law_h"] (defScope s_law_sign) := ⟨rfl, rfl, rfl, by decide +kernel, rfl, by decide +kernel, by decide +kernel⟩
theorem ok_law_sign (T : Tx K mg) (C_law_next : Cal P w K mg base 1 "_law_next" (spF K 2 F_law_next)) : Cal P w K mg base 2 "_law_sign" (spF K 1 F_law_sign) := by
  obtain ⟨fd, F⟩ := T.f_law_sign
  exact cal_fn (N := ["_law_h", "_law_every"]) (g := B_law_sign) F T.n__law_sign sc_law_sign rfl (fun _ _ _ _ _ _ us hl => match us, hl with | [_], _ => rfl) fun cdv A outer s H E hr => by
    have nd := sc_law_sign.nd
    exact (s_cons (s_set (i := 1) nd rfl (Or.inl rfl) f_str)
  (s_one (s_ret (f_ix o_Ix (f_F (f_lst (f_cons (f_ix o_IxS f_str (f_call C_law_next hr (by decide) rfl px (f_cons (f_v 0 (pv 0)) (f_cons f_int f_nil))) (fun _ _ => rfl)) (f_cons (f_ix o_IxS (f_v 1 (pv 1)) (f_call C_law_next hr (by decide) rfl px (f_cons (f_v 0 (pv 0)) (f_cons (f_B b_LenS (by rfl) T.n_len (by decide +kernel) (f_cons (f_v 1 (pv 1)) f_nil)) f_nil))) (fun _ _ => rfl)) f_nil)))) (f_bin o_Div (f_call C_law_next hr (by decide) rfl px (f_cons (f_v 0 (pv 0)) (f_cons f_int f_nil))) f_int) (fun _ _ => rfl)))))
theorem sc_law_text : FnScope ["_law_h", "_law_rows", "_law_k", "_law_many", "_law_n"] ["_law_h"] (defScope s_law_text) := ⟨rfl, rfl, rfl, by decide +kernel, rfl, by decide +kernel, by decide +kernel⟩
theorem ok_law_text (T : Tx K mg) (C_law_next : Cal P w K mg base 1 "_law_next" (spF K 2 F_law_next)) (C_law_sign : Cal P w K mg base 2 "_law_sign" (spF K 1 F_law_sign)) : Cal P w K mg base 3 "_law_text" (spF K 1 F_law_text) := by
  obtain ⟨fd, F⟩ := T.f_law_text
  exact cal_fn (N := ["_law_h", "_law_rows", "_law_k", "_law_many", "_law_n"]) (g := B_law_text) F T.n__law_text sc_law_text rfl (fun _ _ _ _ _ _ us hl => match us, hl with | [_], _ => rfl) fun cdv A outer s H E hr => by
    have nd := sc_law_text.nd
    exact (s_cons (s_own (i := 1) nd rfl (Or.inl rfl) (f_lst f_nil))
  (s_cons (s_for' po rfl (i_rng1 (by rfl) T.n_range (f_cons (f_bin o_Add f_int (f_call C_law_next hr (by decide) rfl px (f_cons (f_v 0 (pv 0)) (f_cons (f_ix o_Ix (f_F (f_lst (f_cons f_int (f_cons f_int (f_cons f_int f_nil))))) (f_call C_law_next hr (by decide) rfl px (f_cons (f_v 0 (pv 0)) (f_cons f_int f_nil))) (fun _ _ => rfl)) f_nil)))) f_nil)) (g_name (i := 2) nd rfl (Or.inl rfl))
    (s_cons (s_set (i := 3) nd rfl (Or.inl rfl) (f_ix o_Ix (f_F (f_lst (f_cons (f_call C_law_next hr (by decide) rfl px (f_cons (f_v 0 (pv 0)) (f_cons f_int f_nil))) (f_cons (f_call C_law_next hr (by decide) rfl px (f_cons (f_v 0 (pv 0)) (f_cons f_int f_nil))) (f_cons (f_bin o_Sub f_int (f_call C_law_next hr (by decide) rfl px (f_cons (f_v 0 (pv 0)) (f_cons f_int f_nil)))) f_nil))))) (f_ix o_Ix (f_F (f_lst (f_cons f_int (f_cons f_int (f_cons f_int (f_cons f_int (f_cons f_int (f_cons f_int f_nil)))))))) (f_call C_law_next hr (by decide) rfl px (f_cons (f_v 0 (pv 0)) (f_cons f_int f_nil))) (fun _ _ => rfl)) (fun _ _ => rfl)))
    (s_one (s_expr (f_lm PySem.F.slot_list_append PySem.F.type_list_append m_Append (f_v 1 (pv 1)) (f_cons (f_join f_str (f_F (f_comp (i := 4) rfl nd (i_rng1 (by rfl) T.n_range (f_cons (f_v 3 (pv 3)) f_nil)) (blkOk_by (N := ["_law_h", "_law_rows", "_law_k", "_law_many", "_law_n"]) (sc := defScope s_law_text) (own := [("_law_n", 4)]) (by decide +kernel)) (fun _ _ _ _ _ => pg_name (i := 4) nd rfl (Or.inl rfl)) (fun _ _ _ _ _ => t_nil) (fun _ _ _ _ _ => (f_call C_law_sign hr (by decide) rfl passL (f_cons (f_v 0 (pv 0)) f_nil)))))) f_nil))))))
  (s_one (s_ret (f_join f_str (f_v 1 (pv 1)))))))
theorem sc_law_single : FnScope ["_law_h", "_law_words", "_law_word", "_law_k"] ["_law_h"] (defScope s_law_single) := ⟨rfl, rfl, rfl, by decide +kernel, rfl, by decide +kernel, by decide +kernel⟩
theorem ok_law_single (T : Tx K mg) (C_law_next : Cal P w K mg base 1 "_law_next" (spF K 2 F_law_next)) (C_law_sign : Cal P w K mg base 2 "_law_sign" (spF K 1 F_law_sign)) : Cal P w K mg base 3 "_law_single" (spF K 1 F_law_single) := by
  obtain ⟨fd, F⟩ := T.f_law_single
  exact cal_fn (N := ["_law_h", "_law_words", "_law_word", "_law_k"]) (g := B_law_single) F T.n__law_single sc_law_single rfl (fun _ _ _ _ _ _ us hl => match us, hl with | [_], _ => rfl) fun cdv A outer s H E hr => by
    have nd := sc_law_single.nd
    exact (s_cons (s_set (i := 1) nd rfl (Or.inl rfl) (f_F (f_lst (f_cons f_str (f_cons f_str (f_cons f_str (f_cons f_str (f_cons f_str (f_cons f_str (f_cons f_str (f_cons f_str (f_cons f_str (f_cons f_str (f_cons f_str (f_cons f_str (f_cons f_str (f_cons f_str f_nil)))))))))))))))))
  (s_cons (s_set (i := 2) nd rfl (Or.inl rfl) (f_ix o_Ix (f_v 1 (pv 1)) (f_call C_law_next hr (by decide) rfl px (f_cons (f_v 0 (pv 0)) (f_cons f_int f_nil))) (fun _ _ => rfl)))
  (s_cons (s_if (t_cmp o_Eq (f_v 2 (pv 2)) f_str (nomark _))
    (s_one (s_ret (f_tup (f_cons (f_v 2 (pv 2)) (f_cons (f_call C_law_sign hr (by decide) rfl px (f_cons (f_v 0 (pv 0)) f_nil)) f_nil)))))
    s_nil)
  (s_cons (s_if (t_cmp o_Eq (f_v 2 (pv 2)) f_str (nomark _))
    (s_one (s_ret (f_tup (f_cons (f_v 2 (pv 2)) (f_cons (f_join f_str (f_F (f_comp (i := 3) rfl nd (i_rng1 (by rfl) T.n_range (f_cons (f_bin o_Add f_int (f_call C_law_next hr (by decide) rfl px (f_cons (f_v 0 (pv 0)) (f_cons (f_ix o_Ix (f_F (f_lst (f_cons f_int (f_cons f_int (f_cons f_int f_nil))))) (f_call C_law_next hr (by decide) rfl px (f_cons (f_v 0 (pv 0)) (f_cons f_int f_nil))) (fun _ _ => rfl)) f_nil)))) f_nil)) (blkOk_by (N := ["_law_h", "_law_words", "_law_word", "_law_k"]) (sc := defScope s_law_single) (own := [("_law_k", 3)]) (by decide +kernel)) (fun _ _ _ _ _ => pg_name (i := 3) nd rfl (Or.inl rfl)) (fun _ _ _ _ _ => t_nil) (fun _ _ _ _ _ => (f_call C_law_sign hr (by decide) rfl passL (f_cons (f_v 0 (pv 0)) f_nil)))))) f_nil)))))
    s_nil)
  (s_one (s_ret (f_tup (f_cons (f_v 2 (pv 2)) f_nil))))))))
theorem sc_law_key : FnScope ["_law_h", "_law_turn"] ["_law_h"] (defScope s_law_key) := ⟨rfl, rfl, rfl, by decide +kernel, rfl, by decide +kernel, by decide +kernel⟩
theorem ok_law_key (T : Tx K mg) (C_law_next : Cal P w K mg base 1 "_law_next" (spF K 2 F_law_next)) (C_law_single : Cal P w K mg base 3 "_law_single" (spF K 1 F_law_single)) : Cal P w K mg base 4 "_law_key" (spF K 1 F_law_key) := by
  obtain ⟨fd, F⟩ := T.f_law_key
  exact cal_fn (N := ["_law_h", "_law_turn"]) (g := B_law_key) F T.n__law_key sc_law_key rfl (fun _ _ _ _ _ _ us hl => match us, hl with | [_], _ => rfl) fun cdv A outer s H E hr => by
    have nd := sc_law_key.nd
    exact (s_cons (s_set (i := 1) nd rfl (Or.inl rfl) (f_call C_law_next hr (by decide) rfl px (f_cons (f_v 0 (pv 0)) (f_cons f_int f_nil))))
  (s_cons (s_if (t_cmp o_Eq (f_v 1 (pv 1)) f_int (nomark _))
    (s_one (s_ret (f_tup (f_cons f_str (f_cons (f_ix o_IxS f_str (f_call C_law_next hr (by decide) rfl px (f_cons (f_v 0 (pv 0)) (f_cons (f_ix o_Ix (f_F (f_lst (f_cons f_int (f_cons f_int (f_cons f_int f_nil))))) (f_call C_law_next hr (by decide) rfl px (f_cons (f_v 0 (pv 0)) (f_cons f_int f_nil))) (fun _ _ => rfl)) f_nil))) (fun _ _ => rfl)) (f_cons (f_bin o_Add f_int (f_call C_law_next hr (by decide) rfl px (f_cons (f_v 0 (pv 0)) (f_cons (f_ix o_Ix (f_F (f_lst (f_cons f_int (f_cons f_int f_nil)))) (f_call C_law_next hr (by decide) rfl px (f_cons (f_v 0 (pv 0)) (f_cons f_int f_nil))) (fun _ _ => rfl)) f_nil)))) f_nil))))))
    s_nil)
  (s_one (s_ret (f_if (t_cmp o_Eq (f_v 1 (pv 1)) f_int (nomark _)) (f_tup (f_cons f_str (f_cons (f_ix o_IxS f_str (f_call C_law_next hr (by decide) rfl px (f_cons (f_v 0 (pv 0)) (f_cons (f_ix o_Ix (f_F (f_lst (f_cons f_int (f_cons f_int (f_cons f_int f_nil))))) (f_call C_law_next hr (by decide) rfl px (f_cons (f_v 0 (pv 0)) (f_cons f_int f_nil))) (fun _ _ => rfl)) f_nil))) (fun _ _ => rfl)) f_nil))) (f_call C_law_single hr (by decide) rfl px (f_cons (f_v 0 (pv 0)) f_nil)))))))
theorem sc_law_tape : FnScope ["_law_h", "_law_most", "_law_often", "_law_k"] ["_law_h", "_law_most"] (defScope s_law_tape) := ⟨rfl, rfl, rfl, by decide +kernel, rfl, by decide +kernel, by decide +kernel⟩
theorem ok_law_tape (T : Tx K mg) (C_law_next : Cal P w K mg base 1 "_law_next" (spF K 2 F_law_next)) (C_law_key : Cal P w K mg base 4 "_law_key" (spF K 1 F_law_key)) (C_law_single : Cal P w K mg base 3 "_law_single" (spF K 1 F_law_single)) : Cal P w K mg base 5 "_law_tape" (spF K 2 F_law_tape) := by
  obtain ⟨fd, F⟩ := T.f_law_tape
  exact cal_fn (N := ["_law_h", "_law_most", "_law_often", "_law_k"]) (g := B_law_tape) F T.n__law_tape sc_law_tape rfl (fun _ _ _ _ _ _ us hl => match us, hl with | [_, _], _ => rfl) fun cdv A outer s H E hr => by
    have nd := sc_law_tape.nd
    exact (s_cons (s_set (i := 2) nd rfl (Or.inr rfl) (f_call C_law_next hr (by decide) rfl px (f_cons (f_v 0 (pv 0)) (f_cons f_int f_nil))))
  (s_one (s_ret (f_Ty b_Tup (by rfl) T.n_tuple (by decide +kernel) (f_cons (f_F (f_comp (i := 3) rfl nd (i_rng1 (by rfl) T.n_range (f_cons (f_call C_law_next hr (by decide) rfl px (f_cons (f_v 0 (pv 0)) (f_cons (f_bin o_Add (f_v 1 (pv 1)) f_int) f_nil))) f_nil)) (blkOk_by (N := ["_law_h", "_law_most", "_law_often", "_law_k"]) (sc := defScope s_law_tape) (own := [("_law_k", 3)]) (by decide +kernel)) (fun _ _ _ _ _ => pg_name (i := 3) nd rfl (Or.inl rfl)) (fun _ _ _ _ _ => t_nil) (fun _ _ _ _ _ => (f_if (t_cmp o_Lt (f_call C_law_next hr (by decide) rfl passL (f_cons (f_v 0 (pv 0)) (f_cons f_int f_nil))) (f_v 2 (pv 2)) (nomark _)) (f_call C_law_key hr (by decide) rfl passL (f_cons (f_v 0 (pv 0)) f_nil)) (f_call C_law_single hr (by decide) rfl passL (f_cons (f_v 0 (pv 0)) f_nil)))))) f_nil)))))
theorem sc_law_tapes : FnScope ["_law_h", "_law_found", "_law_name"] ["_law_h"] (defScope s_law_tapes) := ⟨rfl, rfl, rfl, by decide +kernel, rfl, by decide +kernel, by decide +kernel⟩
theorem ok_law_tapes (T : Tx K mg) (C_law_next : Cal P w K mg base 1 "_law_next" (spF K 2 F_law_next)) (C_law_tape : Cal P w K mg base 5 "_law_tape" (spF K 2 F_law_tape)) : Cal P w K mg base 6 "_law_tapes" (spF K 1 F_law_tapes) := by
  obtain ⟨fd, F⟩ := T.f_law_tapes
  exact cal_fn (N := ["_law_h", "_law_found", "_law_name"]) (g := B_law_tapes) F T.n__law_tapes sc_law_tapes rfl (fun _ _ _ _ _ _ us hl => match us, hl with | [_], _ => rfl) fun cdv A outer s H E hr => by
    have nd := sc_law_tapes.nd
    exact (s_cons (s_set (i := 1) nd rfl (Or.inl rfl) f_dict0)
  (s_cons (s_for' po rfl (i_str f_str) (g_name (i := 2) nd rfl (Or.inl rfl))
    (s_one (s_if (t_cmp o_Gt (f_call C_law_next hr (by decide) rfl px (f_cons (f_v 0 (pv 0)) (f_cons f_int f_nil))) f_int (nomark _))
      (s_one (s_dput' (hu1_of hr) (f_v 1 (pv 1)) (f_v 2 (pv 2)) (f_call C_law_tape hr (by decide) rfl px (f_cons (f_v 0 (pv 0)) (f_cons (f_ix o_Ix (f_F (f_lst (f_cons f_int (f_cons f_int (f_cons f_int f_nil))))) (f_call C_law_next hr (by decide) rfl px (f_cons (f_v 0 (pv 0)) (f_cons f_int f_nil))) (fun _ _ => rfl)) f_nil)))))
      s_nil)))
  (s_one (s_ret (f_v 1 (pv 1))))))
theorem sc_law_kind : FnScope ["_law_work", "e", "_law_kinds", "_law_words", "_law_k"] ["_law_work"] (defScope s_law_kind) := ⟨rfl, rfl, rfl, by decide +kernel, rfl, by decide +kernel, by decide +kernel⟩
theorem ok_law_kind (T : Tx K mg) (hev : ∀ b c wd m, kndWord c = some wd → ∃ sl, G_law_kind b c ⟨kslots 5 1 b, m⟩ = .rt (.d (.str wd)) ⟨sl, m⟩) : Kd P w K mg base := by
  obtain ⟨fd, F⟩ := T.f_law_kind
  have nd := sc_law_kind.nd
  have kf := T.kd
  refine kd_of (Ng := ["_law_work", "e", "_law_kinds", "_law_words", "_law_k"]) F T.n__law_kind sc_law_kind (fun _ _ _ _ _ _ us hl => match us, hl with | [_], _ => rfl) rfl (Or.inl rfl) (by decide) (by decide) fun cdv X q e1 e2 e3 e4 e5 hr0 => ?_
  subst e1 e2 e3 e4 e5
  refine kind_gives (n := "e") (i := 1) (G := G_law_kind) nd rfl rfl rfl T.n_TapeError kf.exm (fun s H b oe c pn hz hf hk => ?_) hev (fun f => rfl)
  have hu : X.A.units + 3 + 65 < cLine := by
    have := hr0.un
    omega
  exact (s_cons (s_set (i := 2) nd rfl (Or.inl rfl) (f_F (f_lst (f_cons (f_isE (kf.isC c hk) hz hf rfl T.n_isinstance (f_v 1 (pv 1)) (pe_gref rfl T.n_BadKeys) (fun _ h => h) (kf.kit c "BadKeys" hk (by decide))) (f_cons (f_isE (kf.isC c hk) hz hf rfl T.n_isinstance (f_v 1 (pv 1)) (pe_gref rfl T.n_BadTape) (fun _ h => h) (kf.kit c "BadTape" hk (by decide))) (f_cons (f_isE (kf.isC c hk) hz hf rfl T.n_isinstance (f_v 1 (pv 1)) (pe_gref rfl T.n_BadText) (fun _ h => h) (kf.kit c "BadText" hk (by decide))) (f_cons (f_isE (kf.isC c hk) hz hf rfl T.n_isinstance (f_v 1 (pv 1)) (pe_gref rfl T.n_BadKey) (fun _ h => h) (kf.kit c "BadKey" hk (by decide))) f_nil)))))))
  (s_cons (s_set (i := 2) nd rfl (Or.inl rfl) (f_F (f_bin o_Cat (f_v 2 (pv 2)) (f_F (f_lst (f_cons (f_isE (kf.isC c hk) hz hf rfl T.n_isinstance (f_v 1 (pv 1)) (pe_gref rfl T.n_BadName) (fun _ h => h) (kf.kit c "BadName" hk (by decide))) (f_cons (f_isE (kf.isC c hk) hz hf rfl T.n_isinstance (f_v 1 (pv 1)) (pe_gref rfl T.n_BadNames) (fun _ h => h) (kf.kit c "BadNames" hk (by decide))) (f_cons (f_isE (kf.isC c hk) hz hf rfl T.n_isinstance (f_v 1 (pv 1)) (pe_gref rfl T.n_BadNumbers) (fun _ h => h) (kf.kit c "BadNumbers" hk (by decide))) f_nil))))))))
  (s_cons (s_set (i := 2) nd rfl (Or.inl rfl) (f_F (f_bin o_Cat (f_v 2 (pv 2)) (f_F (f_lst (f_cons (f_isE (kf.isC c hk) hz hf rfl T.n_isinstance (f_v 1 (pv 1)) (pe_gref rfl T.n_Taping) (fun _ h => h) (kf.kit c "Taping" hk (by decide))) (f_cons (f_isE (kf.isC c hk) hz hf rfl T.n_isinstance (f_v 1 (pv 1)) (pe_gref rfl T.n_NotTaping) (fun _ h => h) (kf.kit c "NotTaping" hk (by decide))) (f_cons (f_isE (kf.isC c hk) hz hf rfl T.n_isinstance (f_v 1 (pv 1)) (pe_gref rfl T.n_TooLong) (fun _ h => h) (kf.kit c "TooLong" hk (by decide))) f_nil))))))))
  (s_cons (s_if (PW.pt (t_or (t_cmp o_Ne (f_lm PySem.F.slot_list_count PySem.F.type_list_count (m_How hu) (f_v 2 (pv 2)) (f_cons f_bl f_nil)) f_int (nomark _)) (t_or1 (t_not (t_val (f_isE (kf.isC c hk) hz hf rfl T.n_isinstance (f_v 1 (pv 1)) (pe_gty (n := "ValueError") rfl T.n_ValueError (by decide +kernel)) (fun _ h => h) (kf.kve c hk)))))))
    (s_one (s_ret f_str))
    s_nil)
  (s_cons (s_own (i := 3) nd rfl (Or.inl rfl) (f_lst (f_cons f_str (f_cons f_str (f_cons f_str (f_cons f_str (f_cons f_str (f_cons f_str (f_cons f_str (f_cons f_str (f_cons f_str f_nil)))))))))))
  (s_cons (s_expr (f_lm PySem.F.slot_list_append PySem.F.type_list_append m_Append (f_v 3 (pv 3)) (f_cons f_str f_nil)))
  (s_cons (s_set (i := 4) nd rfl (Or.inl rfl) (f_lm PySem.F.slot_list_index PySem.F.type_list_index (m_IndexS hu) (f_v 2 (pv 2)) (f_cons f_bl f_nil)))
  (s_one (s_ret (f_if (t_cmp o_Gt (f_v 4 (pv 4)) f_int (nomark _)) (f_ix o_Ix (f_v 3 (pv 3)) (f_v 4 (pv 4)) (fun _ _ => rfl)) (f_tup (f_cons (f_ix o_Ix (f_v 3 (pv 3)) (f_v 4 (pv 4)) (fun _ _ => rfl)) (f_cons (f_if (t_cmp o_Eq (f_v 4 (pv 4)) f_int (nomark _)) f_no f_no) f_nil)))))))))))))
theorem sc_law_turned : FnScope ["_law_signs", "_law_key_here", "_law_sign_here"] ["_law_signs", "_law_key_here"] (defScope s_law_turned) := ⟨rfl, rfl, rfl, by decide +kernel, rfl, by decide +kernel, by decide +kernel⟩
theorem ok_law_turned (T : Tx K mg) : Cal P w K mg base 1 "_law_turned" (spF K 2 F_law_turned) := by
  obtain ⟨fd, F⟩ := T.f_law_turned
  exact cal_fn (N := ["_law_signs", "_law_key_here", "_law_sign_here"]) (g := B_law_turned) F T.n__law_turned sc_law_turned rfl (fun _ _ _ _ _ _ us hl => match us, hl with | [_, _], _ => rfl) fun cdv A outer s H E hr => by
    have nd := sc_law_turned.nd
    exact (s_cons (s_if (t_cmp o_In (f_ix o_IxT (f_v 1 (pv 1)) f_int (fun _ _ => rfl)) (f_tup (f_cons f_str (f_cons f_str f_nil))) (by rfl))
    (s_one (s_ret (f_tup (f_cons (f_ix o_IxT (f_v 1 (pv 1)) f_int (fun _ _ => rfl)) (f_cons (f_join f_str (f_F (f_comp (i := 2) rfl nd (i_str (f_ix o_IxT (f_v 1 (pv 1)) f_int (fun _ _ => rfl))) (blkOk_by (N := ["_law_signs", "_law_key_here", "_law_sign_here"]) (sc := defScope s_law_turned) (own := [("_law_sign_here", 2)]) (by decide +kernel)) (fun _ _ _ _ _ => pg_name (i := 2) nd rfl (Or.inl rfl)) (fun _ _ _ _ _ => t_nil) (fun _ _ _ _ _ => (f_dget (hu1_of hr) (f_v 0 (pv 0)) (f_v 2 (pv 2)) (f_v 2 (pv 2)) ⟨rfl, rfl, rfl, rfl⟩))))) f_nil)))))
    s_nil)
  (s_one (s_ret (f_v 1 (pv 1)))))
theorem sc_law : FnScope ["_law_script", "_law_h", "_law_signs", "_law_some", "_law_name", "_law_step", "_law_left", "_law_sign_here", "_law_text_here", "_law_tapes_here", "_law_one", "_law_other", "_law_key_here", "_law_word", "_law_told", "_law_hand", "_law_found"] ["_law_script"] (defScope s_law) := ⟨rfl, rfl, rfl, by decide +kernel, rfl, by decide +kernel, by decide +kernel⟩
theorem ok_law {fd : FuncData} (T : Tx K mg) (F : FunD K d_law.name d_law.qual (defArgs s_law) (defBody s_law) (defScope s_law) [] [] (He.fAd K ("law", none)) fd) (C_law_mix : Cal P w K mg base 1 "_law_mix" (spF K 2 F_law_mix)) (C_law_next : Cal P w K mg base 1 "_law_next" (spF K 2 F_law_next)) (C_law_text : Cal P w K mg base 3 "_law_text" (spF K 1 F_law_text)) (C_law_tapes : Cal P w K mg base 6 "_law_tapes" (spF K 1 F_law_tapes)) (C_Editor : Mak P w K mg base 3 "Editor" (He.ga K "Editor") (spF K 2 F_Editor_init)) (C_Editor_tape : Met P w K mg base 4 (He.ga K "Editor") "tape" (spF K 3 F_Editor_tape)) (C_law_turned : Cal P w K mg base 1 "_law_turned" (spF K 2 F_law_turned)) (C_law_key : Cal P w K mg base 4 "_law_key" (spF K 1 F_law_key)) (C_law_kind : Kd P w K mg base) (C_Editor_hand : Met P w K mg base 77 (He.ga K "Editor") "hand" (spF K 2 F_Editor_hand)) (C_Editor_press : Met P w K mg base 77 (He.ga K "Editor") "press" (spF K 2 F_Editor_press)) (C_Editor_clip : Met P w K mg base 1 (He.ga K "Editor") "clip" (spF K 1 F_Editor_clip)) (C_Editor_text : Met P w K mg base 1 (He.ga K "Editor") "text" (spF K 1 F_Editor_text)) (C_Editor_place : Met P w K mg base 1 (He.ga K "Editor") "place" (spF K 1 F_Editor_place)) (TB_law : LamX.TabB base mg (He.cT K ("law", none)).1 (He.cT K ("law", none)).2) : FnOk P w K mg base (L2.CX P w) 80 (He.fAd K ("law", none)) fd ["_law_script"] (spF K 1 F_law) := by
  exact law_fnC (N := ["_law_script", "_law_h", "_law_signs", "_law_some", "_law_name", "_law_step", "_law_left", "_law_sign_here", "_law_text_here", "_law_tapes_here", "_law_one", "_law_other", "_law_key_here", "_law_word", "_law_told", "_law_hand", "_law_found"]) (g := B_law) F sc_law rfl fun A outer s H E hr => by
    have nd := sc_law.nd
    exact (s_cons (s_set (i := 1) nd rfl (Or.inl rfl) (f_call C_law_mix hr (by decide) rfl px (f_cons (f_v 0 (pv 0)) (f_cons f_int f_nil))))
  (s_cons (s_set (i := 2) nd rfl (Or.inr rfl) f_dict0)
  (s_cons (s_for' po rfl (i_list (f_F (f_lst (f_cons f_str (f_cons f_str f_nil))))) (g_name (i := 3) nd rfl (Or.inl rfl))
    (s_cons (s_own (i := 6) nd rfl (Or.inl rfl) (f_Ty (b_ListS rfl) (by rfl) T.n_list (by decide +kernel) (f_cons (f_v 3 (pv 3)) f_nil)))
    (s_one (s_for' po rfl (i_str (f_v 3 (pv 3))) (g_name (i := 7) nd rfl (Or.inl rfl))
      (s_one (s_dput' (hu1_of hr) (f_v 2 (pv 2)) (f_v 7 (pv 7)) (f_lm PySem.F.slot_list_pop PySem.F.type_list_pop m_PopAt (f_v 6 (pv 6)) (f_cons (f_call C_law_next hr (by decide) rfl px (f_cons (f_v 1 (pv 1)) (f_cons (f_B b_LenL (by rfl) T.n_len (by decide +kernel) (f_cons (f_v 6 (pv 6)) f_nil)) f_nil))) f_nil))))))))
  (s_cons (s_par (ea := default) (eb := default) (ps_par (i := 8) (j := 9) rfl nd rfl rfl (by decide) rfl rfl (pa_cons (f_call C_law_text hr (by decide) rfl px (f_cons (f_v 1 (pv 1)) f_nil)) (pa_cons (f_call C_law_tapes hr (by decide) rfl px (f_cons (f_v 1 (pv 1)) f_nil)) pa_nil)) (by rfl)) rfl)
  (s_cons (s_asg (f_tup (f_cons (f_mak C_Editor hr (by decide) rfl px (f_cons (f_v 8 (pv 8)) f_nil)) (f_cons (f_mak C_Editor hr (by decide) rfl px (f_cons (f_join f_str (f_F (f_comp (i := 7) rfl nd (i_str (f_v 8 (pv 8))) (blkOk_by (N := ["_law_script", "_law_h", "_law_signs", "_law_some", "_law_name", "_law_step", "_law_left", "_law_sign_here", "_law_text_here", "_law_tapes_here", "_law_one", "_law_other", "_law_key_here", "_law_word", "_law_told", "_law_hand", "_law_found"]) (sc := defScope s_law) (own := [("_law_sign_here", 7)]) (by decide +kernel)) (fun _ _ _ _ _ => pg_name (i := 7) nd rfl (Or.inl rfl)) (fun _ _ _ _ _ => t_nil) (fun _ _ _ _ _ => (f_dget (hu1_of hr) (f_v 2 (pv 2)) (f_v 7 (pv 7)) (f_v 7 (pv 7)) ⟨rfl, rfl, rfl, rfl⟩))))) f_nil)) f_nil))) (g_tup rfl (g_cons (g_name (i := 10) nd rfl (Or.inr rfl)) (g_cons (g_name (i := 11) nd rfl (Or.inr rfl)) g_nil))))
  (s_cons (s_for' po rfl (i_list (f_F (f_B (b_SortD rfl) (by rfl) T.n_sorted (by decide +kernel) (f_cons (f_v 9 (pv 9)) f_nil)))) (g_name (i := 4) nd rfl (Or.inl rfl))
    (s_cons (s_expr (f_met C_Editor_tape (f_v 10 (pv 10)) hr (by decide) px (f_cons (f_v 4 (pv 4)) (f_cons (f_dix (hu1_of hr) (f_v 9 (pv 9)) (f_v 4 (pv 4)) (fun _ _ => rfl)) f_nil))))
    (s_one (s_expr (f_met C_Editor_tape (f_v 11 (pv 11)) hr (by decide) px (f_cons (f_v 4 (pv 4)) (f_cons (f_Ty b_Tup (by rfl) T.n_tuple (by decide +kernel) (f_cons (f_F (f_comp (i := 12) rfl nd (i_tup (f_dix (hu1_of hr) (f_v 9 (pv 9)) (f_v 4 (pv 4)) (fun _ _ => rfl))) (blkOk_by (N := ["_law_script", "_law_h", "_law_signs", "_law_some", "_law_name", "_law_step", "_law_left", "_law_sign_here", "_law_text_here", "_law_tapes_here", "_law_one", "_law_other", "_law_key_here", "_law_word", "_law_told", "_law_hand", "_law_found"]) (sc := defScope s_law) (own := [("_law_key_here", 12)]) (by decide +kernel)) (fun _ _ _ _ _ => pg_name (i := 12) nd rfl (Or.inl rfl)) (fun _ _ _ _ _ => t_nil) (fun _ _ _ _ _ => (f_call C_law_turned hr (by decide) rfl passL (f_cons (f_v 2 (pv 2)) (f_cons (f_v 12 (pv 12)) f_nil)))))) f_nil)) f_nil)))))))
  (s_cons (s_for' po rfl (i_rng1 (by rfl) T.n_range (f_cons (f_call C_law_next hr (by decide) rfl px (f_cons (f_v 1 (pv 1)) (f_cons f_int f_nil))) f_nil)) (g_name (i := 5) nd rfl (Or.inl rfl))
    (s_cons (s_set (i := 12) nd rfl (Or.inr rfl) (f_call C_law_key hr (by decide) rfl px (f_cons (f_v 1 (pv 1)) f_nil)))
    (s_cons (s_set (i := 13) nd rfl (Or.inl rfl) (f_kind (k := 77) C_law_kind rfl TB_law rfl hr (LamX.lamS_by (sc := defScope s_law) (by decide +kernel)) rfl (fun _ _ _ _ _ => rfl) (fun A outer s H E f c' hr => (f_met C_Editor_hand (f_v 10 (pv 10)) hr (by decide) pxl (f_cons (f_v 12 (pv 12)) f_nil))) (by rfl)))
    (s_cons (s_if (t_cmp o_Ne (f_kind (k := 77) C_law_kind rfl TB_law rfl hr (LamX.lamS_by (sc := defScope s_law) (by decide +kernel)) rfl (fun _ _ _ _ _ => rfl) (fun A outer s H E f c' hr => (f_met C_Editor_hand (f_v 11 (pv 11)) hr (by decide) pxl (f_cons (f_call C_law_turned hr (by decide) rfl pxl (f_cons (f_v 2 (pv 2)) (f_cons (f_v 12 (pv 12)) f_nil))) f_nil))) (by rfl)) (f_v 13 (pv 13)) (nomark _))
      (s_one (s_ret f_bl))
      s_nil)
    (s_cons (s_if (t_cmp o_Eq (f_v 13 (pv 13)) f_str (nomark _))
      (s_cons (s_compFL (i := 16) (j := 15) rfl nd rfl rfl (sw_true rfl rfl rfl (by decide +kernel)) (i_live (f_met C_Editor_hand (f_v 10 (pv 10)) hr (by decide) px (f_cons (f_v 12 (pv 12)) f_nil))) (blkOk_by (N := ["_law_script", "_law_h", "_law_signs", "_law_some", "_law_name", "_law_step", "_law_left", "_law_sign_here", "_law_text_here", "_law_tapes_here", "_law_one", "_law_other", "_law_key_here", "_law_word", "_law_told", "_law_hand", "_law_found"]) (sc := defScope s_law) (own := [("_law_found", 16)]) (by decide +kernel)) (fun _ _ _ _ _ => pg_name (i := 16) nd rfl (Or.inl rfl)) (fun _ _ _ _ _ => t_nil) (fun _ _ _ _ _ => (f_call C_law_turned hr (by decide) rfl passL (f_cons (f_v 2 (pv 2)) (f_cons (f_v 16 (pv 16)) f_nil)))))
      (s_one (s_if (PW.pt (t_or (t_cmp (o_NeD hr.units) (f_met C_Editor_hand (f_v 11 (pv 11)) hr (by decide) px (f_cons (f_call C_law_turned hr (by decide) rfl px (f_cons (f_v 2 (pv 2)) (f_cons (f_v 12 (pv 12)) f_nil))) f_nil)) (f_v 15 (pv 15)) (nomark _)) (t_or1 (t_cmp o_Ne (f_met C_Editor_press (f_v 10 (pv 10)) hr (by decide) px (f_cons (f_v 12 (pv 12)) f_nil)) (f_met C_Editor_press (f_v 11 (pv 11)) hr (by decide) px (f_cons (f_call C_law_turned hr (by decide) rfl px (f_cons (f_v 2 (pv 2)) (f_cons (f_v 12 (pv 12)) f_nil))) f_nil)) (nomark _)))))
        (s_one (s_ret f_bl))
        s_nil)))
      s_nil)
    (s_cons (s_compF (i := 16) (j := 14) rfl nd rfl rfl (sw_true rfl rfl rfl (by decide +kernel)) (i_tup (f_tup (f_cons (f_met0 C_Editor_text (f_v 10 (pv 10)) hr (by decide) px) (f_cons (f_met0 C_Editor_clip (f_v 10 (pv 10)) hr (by decide) px) f_nil)))) (blkOk_by (N := ["_law_script", "_law_h", "_law_signs", "_law_some", "_law_name", "_law_step", "_law_left", "_law_sign_here", "_law_text_here", "_law_tapes_here", "_law_one", "_law_other", "_law_key_here", "_law_word", "_law_told", "_law_hand", "_law_found"]) (sc := defScope s_law) (own := [("_law_found", 16)]) (by decide +kernel)) (fun _ _ _ _ _ => pg_name (i := 16) nd rfl (Or.inl rfl)) (fun _ _ _ _ _ => t_nil) (fun _ _ _ _ _ => (f_join f_str (f_F (f_comp (i := 7) rfl nd (i_str (f_v 16 (pv 16))) (blkOk_by (own := [("_law_sign_here", 7)]) (by kernel_rfl)) (fun _ _ _ _ _ => pg_name (i := 7) nd rfl (Or.inl rfl)) (fun _ _ _ _ _ => t_nil) (fun _ _ _ _ _ => (f_dget (hu1_of hr) (f_v 2 (pv 2)) (f_v 7 (pv 7)) (f_v 7 (pv 7)) ⟨rfl, rfl, rfl, rfl⟩)))))))
    (s_one (s_if (PW.pt (t_or (t_cmp (o_NeD hr.units) (f_v 14 (pv 14)) (f_F (f_lst (f_cons (f_met0 C_Editor_text (f_v 11 (pv 11)) hr (by decide) px) (f_cons (f_met0 C_Editor_clip (f_v 11 (pv 11)) hr (by decide) px) f_nil)))) (nomark _)) (t_or1 (t_cmp (o_NeD hr.units) (f_met0 C_Editor_place (f_v 10 (pv 10)) hr (by decide) px) (f_met0 C_Editor_place (f_v 11 (pv 11)) hr (by decide) px) (nomark _)))))
      (s_one (s_ret f_bl))
      s_nil))))))))
  (s_one (s_ret f_bl)))))))))
end
end KT

namespace KT
open PySem PySem.Spec PyProof.Rows L2 KR FE
theorem law_sp {K : PySem.W.Frag} {H : Hp} {a : Addr} {ns : List Int} (hl : ns.length ≤ 63) (hS : SqL K H a (ns.map V.int)) (h0 : H (He.cT K ("law", none)).2 = some (.tbl #[])) : spF K 1 F_law [.ref a] H (fun v _ => v = .bl true) fun _ _ _ => False := by
  obtain ⟨m, e⟩ := law_ok ns (Nat.le_trans hl (by decide))
  have ne : a ≠ (He.cT K ("law", none)).2 ∨ ∃ o, K.lookup a = some o := by
    rcases hS with (h | ⟨o, h⟩) | ⟨o, its, n, h, _⟩
    · exact .inl fun z => by rw [z, h0] at h; cases h
    · exact .inl fun z => by rw [z, h0] at h; cases h
    · exact .inr ⟨o, h⟩
  refine ⟨[], [(He.cT K ("law", none)).2], [TB], [.scr ns], ⟨⟨rfl, fun k b c h1 h2 => ?_⟩, .nil, by simp [ow], fun u hu => by cases hu⟩, .cons (.scr ?_) .nil, rfl, ?_⟩
  · cases k with
    | zero =>
      cases h1
      cases h2
      exact ⟨rfl, LamX.TabS.nil h0⟩
    | succ k => simp at h1
  · rcases hS with (h | ⟨o, h⟩) | h
    · exact .inr (.inl ⟨h, by
        simp only [avo, ow, List.filterMap_nil, List.append_nil, List.nil_append, List.mem_singleton]
        intro z
        rw [z, h0] at h
        cases h⟩)
    · exact .inl ⟨o, h⟩
    · exact .inr (.inr h)
  · rw [e]
    exact fun b ix' H' r x h => WR.bl h
theorem facts {w : World} {K : PySem.W.Frag} {h : Heap} {mg : Str → Option Value} {fa0 : Addr} (X : K.In h) (G : h.Ns mainGlobals mg) (hfa : mg ("law" : Str) = some (.ref fa0)) (c0 : He.SaysX fa fn [] tf ex w h K) :
    LamX.LawAtS PySem.Challenge.rw_keytape_k14_whole_by_other_signs w K (L2.CX (PySem.Challenge.rw_keytape_k14_whole_by_other_signs).prog w) 80 63 "_law_script" mg fa0 h := by
  have T : Tx K mg := ⟨⟨h, X, G⟩, c0.t.d, c0.more⟩
  obtain ⟨fd, F⟩ := T.f_law
  have e := hfa.symm.trans T.n_law
  cases e
  have b := FunD.bindsA (ps := ["_law_script"]) F fun _ _ _ _ _ _ us hl => match us, hl with | [_], _ => rfl
  refine ⟨fd, [He.cT K ("law", none)], spF K 1 F_law, fun p hp => ?_, fun p hp => ?_, fun p hp => ?_, fun s v => b s [v] rfl, fun H a ns hl _ hT hS => law_sp hl hS (hT _ List.mem_cons_self), fun base KB _ hTB => ?_⟩
  · cases List.mem_singleton.mp hp
    exact c0.empty _ List.mem_cons_self
  · cases List.mem_singleton.mp hp
    exact c0.out _ List.mem_cons_self
  · cases List.mem_singleton.mp hp
    exact PySem.W.codeHd_of_K X (c0.hd _ List.mem_cons_self)
  have TB_law := hTB _ List.mem_cons_self
  show FnOk (PySem.Challenge.rw_keytape_k14_whole_by_other_signs).prog w K mg base (L2.CX (PySem.Challenge.rw_keytape_k14_whole_by_other_signs).prog w) 80 _ fd ["_law_script"] (spF K 1 F_law)
  have C_is_number := ok_is_number (P := (PySem.Challenge.rw_keytape_k14_whole_by_other_signs).prog) (w := w) (base := base) T 
  have C_are_signs := ok_are_signs (P := (PySem.Challenge.rw_keytape_k14_whole_by_other_signs).prog) (w := w) (base := base) T 
  have C_is_name := ok_is_name (P := (PySem.Challenge.rw_keytape_k14_whole_by_other_signs).prog) (w := w) (base := base) T 
  have C_is_key := ok_is_key (P := (PySem.Challenge.rw_keytape_k14_whole_by_other_signs).prog) (w := w) (base := base) T C_are_signs C_is_number C_is_name
  have C_need_key := ok_need_key (P := (PySem.Challenge.rw_keytape_k14_whole_by_other_signs).prog) (w := w) (base := base) T C_is_key
  have C_need_name := ok_need_name (P := (PySem.Challenge.rw_keytape_k14_whole_by_other_signs).prog) (w := w) (base := base) T C_is_name
  have C_need_keys := ok_need_keys (P := (PySem.Challenge.rw_keytape_k14_whole_by_other_signs).prog) (w := w) (base := base) T C_is_key
  have C_need_text := ok_need_text (P := (PySem.Challenge.rw_keytape_k14_whole_by_other_signs).prog) (w := w) (base := base) T C_are_signs
  have C_Sheet := ok_Sheet_init (P := (PySem.Challenge.rw_keytape_k14_whole_by_other_signs).prog) (w := w) (base := base) T 
  have C_Sheet_copied := ok_Sheet_copied (P := (PySem.Challenge.rw_keytape_k14_whole_by_other_signs).prog) (w := w) (base := base) T C_Sheet
  have C_Sheet_here := ok_Sheet_here (P := (PySem.Challenge.rw_keytape_k14_whole_by_other_signs).prog) (w := w) (base := base) T 
  have C_Sheet_go := ok_Sheet_go (P := (PySem.Challenge.rw_keytape_k14_whole_by_other_signs).prog) (w := w) (base := base) T 
  have C_Sheet_lay := ok_Sheet_lay (P := (PySem.Challenge.rw_keytape_k14_whole_by_other_signs).prog) (w := w) (base := base) T C_Sheet_here
  have C_Sheet_parted := ok_Sheet_parted (P := (PySem.Challenge.rw_keytape_k14_whole_by_other_signs).prog) (w := w) (base := base) T C_Sheet_here C_Sheet_go
  have C_Sheet_rubbed := ok_Sheet_rubbed (P := (PySem.Challenge.rw_keytape_k14_whole_by_other_signs).prog) (w := w) (base := base) T C_Sheet_here C_Sheet_go
  have C_Sheet_taken := ok_Sheet_taken (P := (PySem.Challenge.rw_keytape_k14_whole_by_other_signs).prog) (w := w) (base := base) T C_Sheet_here
  have C_Sheet_found := ok_Sheet_found (P := (PySem.Challenge.rw_keytape_k14_whole_by_other_signs).prog) (w := w) (base := base) T C_Sheet_go
  have C_Sheet_moved := ok_Sheet_moved (P := (PySem.Challenge.rw_keytape_k14_whole_by_other_signs).prog) (w := w) (base := base) T C_Sheet_here C_Sheet_go
  have C_Sheet_do := ok_Sheet_do (P := (PySem.Challenge.rw_keytape_k14_whole_by_other_signs).prog) (w := w) (base := base) T C_Sheet_lay C_Sheet_parted C_Sheet_rubbed C_Sheet_taken C_Sheet_found C_Sheet_moved
  have C_Player := ok_Player_init (P := (PySem.Challenge.rw_keytape_k14_whole_by_other_signs).prog) (w := w) (base := base) T 
  have C_Player_count := ok_Player_count (P := (PySem.Challenge.rw_keytape_k14_whole_by_other_signs).prog) (w := w) (base := base) T 
  have C_Player_key := ok_Player_key (P := (PySem.Challenge.rw_keytape_k14_whole_by_other_signs).prog) (w := w) (base := base) T C_Player_count C_Sheet_do
  have C_Editor := ok_Editor_init (P := (PySem.Challenge.rw_keytape_k14_whole_by_other_signs).prog) (w := w) (base := base) T C_need_text C_Sheet
  have C_Editor_press := ok_Editor_press (P := (PySem.Challenge.rw_keytape_k14_whole_by_other_signs).prog) (w := w) (base := base) T C_need_key C_Sheet_copied C_Player_key C_Player
  have C_Editor_tape := ok_Editor_tape (P := (PySem.Challenge.rw_keytape_k14_whole_by_other_signs).prog) (w := w) (base := base) T C_need_name C_need_keys
  have C_Editor_hand := ok_Editor_hand (P := (PySem.Challenge.rw_keytape_k14_whole_by_other_signs).prog) (w := w) (base := base) T C_need_key C_Player C_Sheet_copied C_Player_key
  have C_Editor_text := ok_Editor_text (P := (PySem.Challenge.rw_keytape_k14_whole_by_other_signs).prog) (w := w) (base := base) T 
  have C_Editor_place := ok_Editor_place (P := (PySem.Challenge.rw_keytape_k14_whole_by_other_signs).prog) (w := w) (base := base) T 
  have C_Editor_clip := ok_Editor_clip (P := (PySem.Challenge.rw_keytape_k14_whole_by_other_signs).prog) (w := w) (base := base) T 
  have C_law_mix := ok_law_mix (P := (PySem.Challenge.rw_keytape_k14_whole_by_other_signs).prog) (w := w) (base := base) T 
  have C_law_next := ok_law_next (P := (PySem.Challenge.rw_keytape_k14_whole_by_other_signs).prog) (w := w) (base := base) T 
  have C_law_sign := ok_law_sign (P := (PySem.Challenge.rw_keytape_k14_whole_by_other_signs).prog) (w := w) (base := base) T C_law_next
  have C_law_text := ok_law_text (P := (PySem.Challenge.rw_keytape_k14_whole_by_other_signs).prog) (w := w) (base := base) T C_law_next C_law_sign
  have C_law_single := ok_law_single (P := (PySem.Challenge.rw_keytape_k14_whole_by_other_signs).prog) (w := w) (base := base) T C_law_next C_law_sign
  have C_law_key := ok_law_key (P := (PySem.Challenge.rw_keytape_k14_whole_by_other_signs).prog) (w := w) (base := base) T C_law_next C_law_single
  have C_law_tape := ok_law_tape (P := (PySem.Challenge.rw_keytape_k14_whole_by_other_signs).prog) (w := w) (base := base) T C_law_next C_law_key C_law_single
  have C_law_tapes := ok_law_tapes (P := (PySem.Challenge.rw_keytape_k14_whole_by_other_signs).prog) (w := w) (base := base) T C_law_next C_law_tape
  have C_law_kind := ok_law_kind (P := (PySem.Challenge.rw_keytape_k14_whole_by_other_signs).prog) (w := w) (mg := mg) (base := base) T fun b c wd m h => kind_eval b c wd m h
  have C_law_turned := ok_law_turned (P := (PySem.Challenge.rw_keytape_k14_whole_by_other_signs).prog) (w := w) (base := base) T 
  exact ok_law (P := (PySem.Challenge.rw_keytape_k14_whole_by_other_signs).prog) (w := w) (base := base) T F C_law_mix C_law_next C_law_text C_law_tapes C_Editor C_Editor_tape C_law_turned C_law_key C_law_kind C_Editor_hand C_Editor_press C_Editor_clip C_Editor_text C_Editor_place TB_law
end KT
open PySem PySem.W PySem.Calls PyProof.Rows
theorem PySem.Challenge.cw_keytape_k14_whole_by_other_signs_holds : PySem.Challenge.rw_keytape_k14_whole_by_other_signs.Holds := by
  w_on; o_law
  refine HandSHeadRun.head_any (r := OpenLaw.row PySem.Challenge.rw_keytape_k14_whole_by_other_signs) (q := view (OpenLaw.row PySem.Challenge.rw_keytape_k14_whole_by_other_signs).prog [50]) (H := KT.hk) (ob := KT.ob) (M := 20000) (loose := KT.names) (d := HandSHeadRun.topDef (OpenLaw.row PySem.Challenge.rw_keytape_k14_whole_by_other_signs).prog 50) (kwd := []) KT.ob_eq
    (by kernel_rfl) (fun s => by kernel_rfl) KT.run (by kernel_rfl) (by kernel_rfl) (by kernel_rfl) (by rfl) (by first | assumption | decide +kernel) (by decide +kernel) ⟨rfl, rfl, rfl, rfl, rfl, by decide +kernel⟩ ?hw ?hc
  case hw => w_witness2
  case hc =>
    refine LamX.walk_ofTsE (l := PySem.Challenge.rw_keytape_k14_whole_by_other_signs) (n := 63) (k := 80) (x := "_law_script") (CX := fun w => L2.CX (PySem.Challenge.rw_keytape_k14_whole_by_other_signs).prog w) rfl (by decide) (by kernel_rfl) ⟨rfl, by decide, by decide⟩ ?F (fun _ _ _ _ _ ⟨_, _, _, _, _, _, _, _, _, _, _, _, z⟩ => z)
    intro w mg fa0 h Y G hmg0
    obtain ⟨K, KX, c⟩ := Y
    have hmg : mg ("law" : PySem.Str) = some (.ref fa0) := by
      have e : (HandSHeadRun.topDef (OpenLaw.row PySem.Challenge.rw_keytape_k14_whole_by_other_signs).prog 50).name = ("law" : PySem.Str) := by kernel_rfl
      rw [← e]
      exact hmg0
    exact ⟨K, KX, KT.facts KX G hmg c⟩

