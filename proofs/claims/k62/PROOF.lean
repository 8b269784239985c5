import PyProof.Rows.All
import Wide.All
import OpenK.AllK
import Wide.FinOn
import KE.KStateDown
import Lean
import HandS.Base
import HandS.Call
import HandS.List
import HandS.Comp
import HandS.Ends
import HandS.Text
import HandS.More
import HandS.Iter
import HandS.Exc
import HandS.ExcOwn
import HandS.TryOnly
import HandS.Words
import HandS.WordsList
import HandS.WordsExc
import HandS.Defaults
import HandS.MakeKwOnly
import HandS.Property
import HandS.StrMore
import HandS.TupAny
import HandS.Steps
import HandS.Evl
import HandS.Head0
import HandS.Head1
import HandS.Head2
import HandS.HeadEnd
import HandS.HeadHook1
import HandS.HeadHook2
import PySem.Challenge.RW_promiseplay_k62_whole_recovery
set_option Elab.async false
set_option linter.all false
set_option maxRecDepth 100000
set_option maxHeartbeats 0
namespace Pp
open PySem PySem.Spec PyProof.Rows L2
/-! ### callables, bundled -/
structure FC (P : Program) (w : World) (K : PySem.W.Frag) (mg : Str → Option Value) (base : Heap) (CX : CXT) (k : Nat) (x : Str) (sp : Sp) : Prop where
  ex : ∃ (f : Addr) (fd : FuncData) (ps : List Str), FnOk P w K mg base CX k f fd ps sp ∧ mg x = some (.ref f) ∧ PySem.W.keepIn K (.ref f) = true ∧ Binds K fd ps []
structure TC (P : Program) (w : World) (K : PySem.W.Frag) (mg : Str → Option Value) (base : Heap) (CX : CXT) (k : Nat) (C : Addr) (m : Str) (sp : Sp) : Prop where
  ex : ∃ (f : Addr) (fd : FuncData) (ps : List Str), Cls K C ∧ Meth K C m f ∧ FnOk P w K mg base CX k f fd ps sp ∧ Binds K fd ps []
structure KC (P : Program) (w : World) (K : PySem.W.Frag) (mg : Str → Option Value) (base : Heap) (CX : CXT) (k : Nat) (x : Str) (C : Addr) (sp : Sp) (dvs : List V) : Prop where
  ex : ∃ (f : Addr) (fd : FuncData) (ps : List Str) (ds : List Value), Mk K C f ∧ FnOk P w K mg base CX k f fd ps sp ∧ mg x = some (.ref C) ∧ Binds K fd ps ds ∧ Vals dvs ds
/-- C(e, k = v): one positional value, one keyword -/
structure KK (P : Program) (w : World) (K : PySem.W.Frag) (mg : Str → Option Value) (base : Heap) (CX : CXT) (k : Nat) (x : Str) (C : Addr) (sp : Sp) (ks : List Str) (gV : List V → List V → List V) : Prop where
  ex : ∃ (f : Addr) (fd : FuncData) (ps : List Str) (g : List Value → List Value → List Value), Mk K C f ∧ FnOk P w K mg base CX k f fd ps sp ∧ mg x = some (.ref C) ∧ KBn K fd ps 2 ks g gV
structure PC (P : Program) (w : World) (K : PySem.W.Frag) (mg : Str → Option Value) (base : Heap) (k : Nat) (C : Addr) (f : Str) (sp : Sp) : Prop where
  ex : ∃ (p g : Addr) (fd : FuncData) (ps : List Str), Cls K C ∧ PropOf K C f p g ∧ FnOk P w K mg base CX0 k g fd ps sp ∧ Binds K fd ps []
structure XC (K : PySem.W.Frag) (mg : Str → Option Value) (x : Str) (C : Addr) : Prop where
  ex : PySem.W.excIn K C He.veBase "ValueError.__new__" = true
  g : mg x = some (.ref C)
  k : PySem.W.keepIn K (.ref C) = true
  b : PySem.W.subIn K (.ref C) (.type "BaseException") = some true
  t : PySem.W.typeIn K (.ref C) = some (.type "type")
section
variable {X : Cx} {j k : Nat} {x m : Str} {C : Addr} {sp : Sp} {dvs : List V} {p pos apos : Pos} {e o : Expr} {es : List Expr} {ta : TE} {t tk : TA} {E : XK} {kws : List Keyword} {ks : List Str} {gV : List V → List V → List V}
theorem passX (h : Takes X (fun cls d _ H => E cls d H)) : Passes (L2.CX X.prog X.w) X E := passes_call h fun _ _ _ _ q => q
theorem pe_cc (c : FC X.prog X.w X.K X.mg X.base CX0 k x sp) (hr : Room j X.A) (hk : k ≤ j) (hg : Gl X x) (ha : PA X (e :: es) t)
    (hdb : (x == ("__debug__" : Str)) = false := by decide) (he : starEach (e :: es) X.env = (false, eval e X.env) :: starEach es X.env := by rfl) (hpl : (backTo pos (starEach es X.env)).any (·.1) = false := by rfl) :
    PE X (.Call (.Name x p) (e :: es) [] pos) (tCall sp [] E0 t) := by
  obtain ⟨f, fd, ps, F, hm, kp, b⟩ := c.ex
  exact pe_call F (hr.mono hk) hg hm kp b .nil pass0 ha hdb he hpl
theorem pe_cl (c : FC X.prog X.w X.K X.mg X.base (L2.CX X.prog X.w) k x sp) (hr : Room j X.A) (hk : k ≤ j) (hg : Gl X x) (ha : PA X (e :: es) t)
    (hdb : (x == ("__debug__" : Str)) = false := by decide) (he : starEach (e :: es) X.env = (false, eval e X.env) :: starEach es X.env := by rfl) (hpl : (backTo pos (starEach es X.env)).any (·.1) = false := by rfl) :
    PE X (.Call (.Name x p) (e :: es) [] pos) (tCall sp [] E0 t) := by
  obtain ⟨f, fd, ps, F, hm, kp, b⟩ := c.ex
  exact pe_call F (hr.mono hk) hg hm kp b .nil passL ha hdb he hpl
theorem pe_cx (c : FC X.prog X.w X.K X.mg X.base (L2.CX X.prog X.w) k x sp) (hr : Room j X.A) (hk : k ≤ j) (hg : Gl X x) (tk : Takes X (fun cls d _ H => E cls d H)) (ha : PA X (e :: es) t)
    (hdb : (x == ("__debug__" : Str)) = false := by decide) (he : starEach (e :: es) X.env = (false, eval e X.env) :: starEach es X.env := by rfl) (hpl : (backTo pos (starEach es X.env)).any (·.1) = false := by rfl) :
    PE X (.Call (.Name x p) (e :: es) [] pos) (tCall sp [] E t) := by
  obtain ⟨f, fd, ps, F, hm, kp, b⟩ := c.ex
  exact pe_call F (hr.mono hk) hg hm kp b .nil (passX tk) ha hdb he hpl
theorem pe_mk0 (c : KC X.prog X.w X.K X.mg X.base CX0 k x C sp dvs) (hr : Room j X.A) (hk : k + 1 ≤ j) (hg : Gl X x) (ha : PA X (e :: es) t)
    (hdb : (x == ("__debug__" : Str)) = false := by decide) (he : starEach (e :: es) X.env = (false, eval e X.env) :: starEach es X.env := by rfl) (hpl : (backTo pos (starEach es X.env)).any (·.1) = false := by rfl) :
    PE X (.Call (.Name x p) (e :: es) [] pos) (tMake C sp dvs E0 t) := by
  obtain ⟨f, fd, ps, ds, M, F, hm, b, d⟩ := c.ex
  exact pe_make M F (hr.mono hk) hg hm b d pass0 ha hdb he hpl
theorem pe_mkl (c : KC X.prog X.w X.K X.mg X.base (L2.CX X.prog X.w) k x C sp dvs) (hr : Room j X.A) (hk : k + 1 ≤ j) (hg : Gl X x) (ha : PA X (e :: es) t)
    (hdb : (x == ("__debug__" : Str)) = false := by decide) (he : starEach (e :: es) X.env = (false, eval e X.env) :: starEach es X.env := by rfl) (hpl : (backTo pos (starEach es X.env)).any (·.1) = false := by rfl) :
    PE X (.Call (.Name x p) (e :: es) [] pos) (tMake C sp dvs E0 t) := by
  obtain ⟨f, fd, ps, ds, M, F, hm, b, d⟩ := c.ex
  exact pe_make M F (hr.mono hk) hg hm b d passL ha hdb he hpl
theorem pe_mkx (c : KC X.prog X.w X.K X.mg X.base (L2.CX X.prog X.w) k x C sp dvs) (hr : Room j X.A) (hk : k + 1 ≤ j) (hg : Gl X x) (tk : Takes X (fun cls d _ H => E cls d H)) (ha : PA X (e :: es) t)
    (hdb : (x == ("__debug__" : Str)) = false := by decide) (he : starEach (e :: es) X.env = (false, eval e X.env) :: starEach es X.env := by rfl) (hpl : (backTo pos (starEach es X.env)).any (·.1) = false := by rfl) :
    PE X (.Call (.Name x p) (e :: es) [] pos) (tMake C sp dvs E t) := by
  obtain ⟨f, fd, ps, ds, M, F, hm, b, d⟩ := c.ex
  exact pe_make M F (hr.mono hk) hg hm b d (passX tk) ha hdb he hpl
theorem pe_mkk (c : KK X.prog X.w X.K X.mg X.base CX0 k x C sp ks gV) (hr : Room j X.A) (hk : k + 1 ≤ j) (hg : Gl X x) (ha : PA X (e :: es) t) (hkw : PK X kws tk)
    (hall : (backToKw pos (keywordEach kws X.env)).all (·.1.isSome) = true := by rfl) (hks : (backToKw pos (keywordEach kws X.env)).filterMap (·.1) = ks := by rfl) (hdb : (x == ("__debug__" : Str)) = false := by decide)
    (he : starEach (e :: es) X.env = (false, eval e X.env) :: starEach es X.env := by rfl) (hpl : ((backTo pos (starEach (e :: es) X.env)).any (·.1) || (backToKw pos (keywordEach kws X.env)).any (·.1.isNone)) = false := by rfl) :
    PE X (.Call (.Name x p) (e :: es) kws pos) (tMakeK C 1 ks.length sp gV E0 t tk) := by
  obtain ⟨f, fd, ps, g, M, F, hm, b⟩ := c.ex
  exact pe_makeK M F (hr.mono hk) hg hm b pass0 ha hkw hall hks hdb he hpl
theorem pe_mtc {pl : Sem Bool} (c : TC X.prog X.w X.K X.mg X.base CX0 k C m sp) (hr : Room j X.A) (hk : k ≤ j) (he : PE X o ta) (ha : PA X (e :: es) t)
    (hst : starEach (e :: es) X.env = (false, eval e X.env) :: starEach es X.env := by rfl) (hpl : (backTo pos (starEach es X.env)).any (·.1) = false := by rfl)
    (ht : eval (.Call (.Attribute o m apos) (e :: es) [] pos) X.env = (do
      let ov ← eval o X.env
      standAt apos.atName
      let (f, first) ← holding [ov] (getMethod ov m pl)
      callWith pos f first (backTo pos (starEach (e :: es) X.env)) (backToKw pos (keywordEach [] X.env))) := by rfl) :
    PE X (.Call (.Attribute o m apos) (e :: es) [] pos) (tMeth C m sp [] E0 ta t) := by
  obtain ⟨f, fd, ps, hc, hm, F, b⟩ := c.ex
  exact pe_meth (pl := pl) he hc hm F (hr.mono hk) b .nil pass0 ha hst hpl ht
theorem pe_mtl {pl : Sem Bool} (c : TC X.prog X.w X.K X.mg X.base (L2.CX X.prog X.w) k C m sp) (hr : Room j X.A) (hk : k ≤ j) (he : PE X o ta) (ha : PA X (e :: es) t)
    (hst : starEach (e :: es) X.env = (false, eval e X.env) :: starEach es X.env := by rfl) (hpl : (backTo pos (starEach es X.env)).any (·.1) = false := by rfl)
    (ht : eval (.Call (.Attribute o m apos) (e :: es) [] pos) X.env = (do
      let ov ← eval o X.env
      standAt apos.atName
      let (f, first) ← holding [ov] (getMethod ov m pl)
      callWith pos f first (backTo pos (starEach (e :: es) X.env)) (backToKw pos (keywordEach [] X.env))) := by rfl) :
    PE X (.Call (.Attribute o m apos) (e :: es) [] pos) (tMeth C m sp [] E0 ta t) := by
  obtain ⟨f, fd, ps, hc, hm, F, b⟩ := c.ex
  exact pe_meth (pl := pl) he hc hm F (hr.mono hk) b .nil passL ha hst hpl ht
theorem pe_mtx {pl : Sem Bool} (c : TC X.prog X.w X.K X.mg X.base (L2.CX X.prog X.w) k C m sp) (hr : Room j X.A) (hk : k ≤ j) (tk : Takes X (fun cls d _ H => E cls d H)) (he : PE X o ta) (ha : PA X (e :: es) t)
    (hst : starEach (e :: es) X.env = (false, eval e X.env) :: starEach es X.env := by rfl) (hpl : (backTo pos (starEach es X.env)).any (·.1) = false := by rfl)
    (ht : eval (.Call (.Attribute o m apos) (e :: es) [] pos) X.env = (do
      let ov ← eval o X.env
      standAt apos.atName
      let (f, first) ← holding [ov] (getMethod ov m pl)
      callWith pos f first (backTo pos (starEach (e :: es) X.env)) (backToKw pos (keywordEach [] X.env))) := by rfl) :
    PE X (.Call (.Attribute o m apos) (e :: es) [] pos) (tMeth C m sp [] E ta t) := by
  obtain ⟨f, fd, ps, hc, hm, F, b⟩ := c.ex
  exact pe_meth (pl := pl) he hc hm F (hr.mono hk) b .nil (passX tk) ha hst hpl ht
theorem pe_prp {f : Str} (c : PC X.prog X.w X.K X.mg X.base k C f sp) (hr : Room j X.A) (hk : k + 1 ≤ j) (he : PE X o ta) (hab : attributeBase o f X.env (eval o X.env) = eval o X.env) :
    PE X (.Attribute o f pos) (tProp C sp [] E0 ta) := by
  obtain ⟨p, g, fd, ps, hc, hp, F, b⟩ := c.ex
  exact pe_prop he hc hp F (hr.mono hk) b .nil (fun _ _ _ _ _ _ _ h => h.elim) hab
theorem pe_gs {z : Str} (h : ∃ t, X.mg x = some (.str z t)) (hg : Gl X x) (hd : (x == ("__debug__" : Str)) = false := by decide) : PE X (.Name x pos) (tC (.str z)) := by
  obtain ⟨t, e⟩ := h
  exact pe_glob hg e ⟨t, rfl⟩ hd
theorem pmk_x {mm : Str} {jj : Nat} {p2 : Pos} (c : XC X.K X.mg x C) (hg : Gl X x) (hdb : (x == ("__debug__" : Str)) = false := by decide) : PMk X (.Call (.Name x p) [.Constant (.str mm) jj p2] [] pos) (fun _ H Q => Q (.ref C) none H) :=
  pmk_own PySem.F.excBase_ValueError c.ex c.g c.k (raises_own c.b c.t) hg hdb
end
/-! ### a target that is an attribute -/
def gFld (K : PySem.W.Frag) (ta : TE) (f : Str) : TG := fun v σ H Q => ta σ H fun x H1 => ∃ a C dx fs, x = .ref a ∧ H1 a = some (.ins C dx fs) ∧ Cls K C ∧ NoAttr K C f ∧ fs.length < 1000 ∧ Q σ (upd H1 a (.ins C dx (putF f v fs)))
theorem pg_fld {X : Cx} {o : Expr} {f : Str} {pos : Pos} {ta : TE} (ho : PE X o ta) : PG X (.Attribute o f pos) (gFld X.K ta f) := by
  refine ⟨fun pins s σ H v u Q I r h => ?_⟩
  rw [PySem.assign_Attribute]
  refine wpAny_bind (wpAny_holding (thn (ho.run pins s σ H _ I h) fun ov s1 ⟨x, H1, I1, rx, a, C, dx, fs, ex, ea, c, n, l, q⟩ => ?_))
  subst ex
  obtain rfl : ov = Value.ref a := rx
  refine wpAny_bind (wpAny_standAt (wpAny_bind (wpAny_holding (setattr_ok I1 ea c n l r fun s3 I3 => ?_))))
  exact wpAny_release ⟨σ, _, I3, q⟩
/-! ### rules whose reading names the written part: K given -/
section
variable {X : Cx} {K : PySem.W.Frag}
theorem ix_listK (h : X.K = K) : IxR X (rIxL K) := h ▸ ix_list
theorem ix_tupK (h : X.K = K) : IxR X (rIxT K) := h ▸ ix_tup
theorem sl_listK (h : X.K = K) : SlR X (rSlL K) := h ▸ sl_list
theorem sl_tupAK (h : X.K = K) : SlR X (rSlA K) := h ▸ sl_tupA
theorem pi_listK {tg l : Expr} {tl : TE} (h : X.K = K) (hl : PE X l tl) : PI X tg l (iList K tl) := h ▸ pi_list hl
theorem pi_tupK {tg l : Expr} {tl : TE} (h : X.K = K) (hl : PE X l tl) : PI X tg l (iTup K tl) := h ▸ pi_tup hl
def rLenQ (K : PySem.W.Frag) : List V → Hp → VK → Prop := fun xs H Q => ∃ p ys, xs = [.ref p] ∧ (SqL K H p ys ∨ SqT K H p ys) ∧ Q (.int ys.length) H
def rListOf (K : PySem.W.Frag) : List V → Hp → VK → Prop := fun xs H Q => ∃ p ys, xs = [.ref p] ∧ (SqL K H p ys ∨ SqT K H p ys) ∧ ∀ l, H l = none → Q (.ref l) (upd H l (.lst ys))
def rTupOf (K : PySem.W.Frag) : List V → Hp → VK → Prop := fun xs H Q => ∃ p ys, xs = [.ref p] ∧ ((SqL K H p ys ∧ ∀ l, H l = none → Q (.ref l) (upd H l (.tup ys))) ∨ (SqT K H p ys ∧ Q (.ref p) H))
theorem call_lenK (h : X.K = K) : CallR X (.builtin "len") (rLenQ K) := h ▸ call_len_seq
theorem call_listK (h : X.K = K) : CallR X (.type "list") (rListOf K) := h ▸ call_list_of
theorem call_tupleK (h : X.K = K) : CallR X (.type "tuple") (rTupOf K) := h ▸ call_tuple_of
theorem pe_fldK {e : Expr} {f : Str} {pos : Pos} {ta : TE} (h : X.K = K) (he : PE X e ta) (hb : attributeBase e f X.env (eval e X.env) = eval e X.env) : PE X (.Attribute e f pos) (tFld K ta f) := h ▸ pe_fld he hb
theorem op_eqDK (h : X.K = K) (hu : X.A.units + 64 < cLine) : OpR X (compareOp .Eq) (rEqD K) := h ▸ op_eqD hu
theorem op_neDK (h : X.K = K) (hu : X.A.units + 64 < cLine) : OpR X (compareOp .NotEq) (rNeD K) := h ▸ op_neD hu
theorem op_catAK (h : X.K = K) : OpR X (binaryOp .Add) (rCatA K) := h ▸ op_catA
theorem op_in_seqK (h : X.K = K) : OpR X (compareOp .In) (rIn K false) := h ▸ op_in_seq
theorem op_notIn_seqK (h : X.K = K) : OpR X (compareOp .NotIn) (rIn K true) := h ▸ op_notIn_seq
theorem pg_tupK {es : List Expr} {k : Nat} {t : TGs} {n : Nat} {pos : Pos} (hK : X.K = K) (hc : X.calm = true) (h : PGs X es t) (hn : (assignEach es X.env).length = n := by rfl) (hst : (assignEach es X.env).findIdx? (·.1) = none := by rfl) : PG X (.Tuple es k pos) (gTup K n t) := hK ▸ pg_tup hc h hn hst
end
end Pp

namespace Pp
open PySem PySem.Spec PyProof.Rows L2
/-! ### a list of ints of which nothing more is told -/
def IntsAt (d : Addr) (h : Heap) : Prop := ∃ (ns : List Int) (its : List Value) (n : Nat), Vals (ns.map V.int) its ∧ its.length ≤ sizeLine ∧ h.get? d = some { cls := .type "list", data := .seq its.toArray n }
abbrev DR (d : Addr) : HO := .ext (IntsAt d)
section
variable {P : Program} {w : World} {H H' : Hp} {h h' : Heap} {d : Addr}
theorem hok_swap {o o' : HO} (x : HOk P w H h) (e : H d = some o) (no : ∀ y, o ≠ .own y) (nt : ∀ xs, o ≠ .tup xs) (new : ObjOk P w (upd H d o') h d o') : HOk P w (upd H d o') h := fun b u q => by
  by_cases hb : b = d
  · subst hb
    rw [upd_same] at q
    cases q
    exact new
  · rw [upd_ne hb] at q
    refine (x b u q).stay (fun c v _ r => r) (fun c r => ?_) fun c xs r => ?_
    · rw [upd_ne (ne_of r e fun z => no _ z.symm)]
      exact r
    · rw [upd_ne (ne_of r e fun z => nt _ z.symm)]
      exact r
theorem hok_forget {ns : List Int} (x : HOk P w H h) (e : H d = some (.lst (ns.map V.int))) : HOk P w (upd H d (DR d)) h := by
  refine hok_swap x e (fun _ z => nomatch z) (fun _ z => nomatch z) ?_
  obtain ⟨z, its, n, r, g⟩ := x d _ e
  refine ⟨⟨ns, its, n, r, by rw [← r.length]; exact z, g⟩, ⟨_, g⟩, fun h1 h2 ⟨ns', its', n', r', z', g'⟩ k => ⟨ns', its', n', r', z', k _ g'⟩⟩
theorem hok_know (x : HOk P w H h) (e : H d = some (DR d)) : ∃ ns : List Int, HOk P w (upd H d (.lst (ns.map V.int))) h := by
  obtain ⟨⟨ns, its, n, r, z, g⟩, _, _⟩ := x d _ e
  refine ⟨ns, hok_swap x e (fun _ z => nomatch z) (fun _ z => nomatch z) ⟨by rw [r.length]; exact z, its, n, r, g⟩⟩
theorem upd_self' {H : Hp} {d : Addr} {o : HO} (e : H d = some o) : upd H d o = H := by
  funext b
  by_cases hb : b = d
  · subst hb
    rw [upd_same, e]
  · rw [upd_ne hb]
theorem upd_back {o : HO} (e : H d = some o) (o' : HO) : upd (upd H d o') d o = H := by
  funext b
  by_cases hb : b = d
  · subst hb
    rw [upd_same, e]
  · rw [upd_ne hb, upd_ne hb]
/-- a promise told of a list of ints whose items are not told -/
theorem FnOk.draw {K : PySem.W.Frag} {mg : Str → Option Value} {base : Heap} {k : Nat} {f : Addr} {fd : FuncData} {ps : List Str} {sp sp' : Sp} (F : FnOk P w K mg base CX0 k f fd ps sp)
    (len : ∀ vs H Q E, sp' vs H Q E → vs.length = ps.length)
    (h : ∀ vs H Q E, sp' vs H Q E → ∃ d, H d = some (DR d) ∧ ∀ ns : List Int, sp vs (upd H d (.lst (ns.map V.int))) (fun v H' => ∃ ns' : List Int, H' d = some (.lst (ns'.map V.int)) ∧ Q v (upd H' d (DR d))) E) :
    FnOk P w K mg base CX0 k f fd ps sp' := by
  refine ⟨len, fun A outer s H args us vs Q E hr he hb hv hs => ?_⟩
  obtain ⟨d, hd, hsp⟩ := h vs H Q E hs
  obtain ⟨ns, ok⟩ := hok_know he.hok hd
  have nn : ∀ b, H b = none → b ≠ d := fun b n z => by rw [z, hd] at n; cases n
  have e0 : Env0 P w K mg base A outer s (upd H d (.lst (ns.map V.int))) := ⟨he.frames, he.mod, fun b o e => ⟨(he.bs b o e).1, by rw [upd_ne (nn b (he.bs b o e).2)]; exact (he.bs b o e).2⟩, he.bsz, he.funs, fun b hb => by rw [upd_ne (nn b (he.frf b hb))]; exact he.frf b hb, ok, he.bare⟩
  refine codeAny_mono (F.run A outer s _ args us vs _ E hr e0 hb hv (hsp ns)) fun r s' hq => ?_
  cases r with
  | error e => exact hq
  | ok fl =>
    cases fl with
    | ret u =>
      obtain ⟨v, H', os, bare, un, hok, rv, ns', hd', q⟩ := hq
      have ed : ∀ o, s.heap.get? d = some o → True := fun _ _ => trivial
      refine ⟨v, upd H' d (DR d), os, bare, ⟨fun b o g n hf hx => un.keep b o g (by rw [upd_ne (nn b n)]; exact n) hf hx, fun b o g n hf hx => un.slot b o g (by rw [upd_ne (nn b n)]; exact n) hf hx, fun b o g n hx => ?_, un.there, fun b xs e => ?_, fun b o u e => ?_, fun b ps e => ?_⟩, hok_forget hok hd', rv, q⟩
      · have e1 := un.free b o g (by rw [upd_ne (nn b n)]; exact n) hx
        rw [upd_ne (nn b n)]
        exact e1
      · have nb : b ≠ d := ne_of e hd fun z => nomatch z
        rw [upd_ne nb]
        exact un.tups b xs (by rw [upd_ne nb]; exact e)
      · have nb : b ≠ d := ne_of e hd fun z => nomatch z
        rw [upd_ne nb]
        exact un.frzs b o u (by rw [upd_ne nb]; exact e)
      · have nb : b ≠ d := ne_of e hd fun z => nomatch z
        rw [upd_ne nb]
        exact un.tbls b ps (by rw [upd_ne nb]; exact e)
    | next => exact hq
    | brk => exact hq
    | cont => exact hq
/-- a new list of ints is given out, its items forgotten -/
theorem FnOk.hide {K : PySem.W.Frag} {mg : Str → Option Value} {base : Heap} {k : Nat} {f : Addr} {fd : FuncData} {ps : List Str} {sp sp' : Sp} (F : FnOk P w K mg base CX0 k f fd ps sp)
    (h : ∀ vs H Q E, sp' vs H Q E → sp vs H (fun v H' => ∃ (d : Addr) (ns : List Int), v = .ref d ∧ H d = none ∧ H' d = some (.lst (ns.map V.int)) ∧ Q v (upd H' d (DR d))) E) :
    FnOk P w K mg base CX0 k f fd ps sp' := by
  refine ⟨fun vs H Q E q => F.len vs H _ E (h _ _ _ _ q), fun A outer s H args us vs Q E hr he hb hv hs => ?_⟩
  refine codeAny_mono (F.run A outer s H args us vs _ E hr he hb hv (h vs H Q E hs)) fun r s' hq => ?_
  cases r with
  | error e => exact hq
  | ok fl =>
    cases fl with
    | ret u =>
      obtain ⟨v, H', os, bare, un, hok, rv, d, ns, ev, n0, hd', q⟩ := hq
      refine ⟨v, upd H' d (DR d), os, bare, ⟨un.keep, un.slot, fun b o g n hx => ?_, un.there, fun b xs e => ?_, fun b o u e => ?_, fun b ps e => ?_⟩, hok_forget hok hd', rv, q⟩
      · have e1 := un.free b o g n hx
        have nb : b ≠ d := fun z => by rw [z, hd'] at e1; cases e1
        rw [upd_ne nb]
        exact e1
      · have nb : b ≠ d := ne_of_none e n0
        rw [upd_ne nb]
        exact un.tups b xs e
      · have nb : b ≠ d := ne_of_none e n0
        rw [upd_ne nb]
        exact un.frzs b o u e
      · have nb : b ≠ d := ne_of_none e n0
        rw [upd_ne nb]
        exact un.tbls b ps e
    | next => exact hq
    | brk => exact hq
    | cont => exact hq
end
/-! ### heaps: what is known stays -/
section
variable {H H' H1 H2 : Hp} {a b p q j : Addr} {o o' : HO}
theorem keep_new (hp : H p = none) (h : H a = some o) : upd H p o' a = some o := by
  rw [upd_ne (ne_of_none h hp)]
  exact h
theorem keep_ne (hn : a ≠ p) (h : H a = some o) : upd H p o' a = some o := by
  rw [upd_ne hn]
  exact h
theorem none_ne (hn : a ≠ p) (h : H a = none) : upd H p o' a = none := by
  rw [upd_ne hn]
  exact h
/-- all but what stands at j is kept -/
def Fr (j : Addr) (H H' : Hp) : Prop := ∀ b o, H b = some o → b ≠ j → H' b = some o
theorem Fr.refl : Fr j H H := fun _ _ h _ => h
theorem Fr.trans (x : Fr j H H1) (y : Fr j H1 H2) : Fr j H H2 := fun b o h n => y b o (x b o h n) n
theorem Fr.of (x : Same H H') : Fr j H H' := fun b o h _ => x b o h
theorem Fr.upd (x : Fr j H H1) : Fr j H (upd H1 j o') := fun b o h n => keep_ne n (x b o h n)
theorem Same.new (hp : H p = none) : Same H (L2.upd H p o') := fun _ _ h => keep_new hp h
theorem Same.upd (x : Same H H1) (hp : H p = none) : Same H (L2.upd H1 p o') := fun b o h => keep_ne (ne_of_none h hp) (x b o h)
end
theorem small (n : Nat) (h : n ≤ 100000 := by omega) : n ≤ sizeLine := Nat.le_trans h (by decide)
theorem smallL (n : Nat) (h : n < 100000 := by omega) : n < sizeLine := Nat.lt_of_lt_of_le h (by decide)
end Pp

namespace Pp
open PySem PySem.Spec PyProof.Rows L2 He
/-! ### a head's facts, and properties beside them -/
def pAd (K : PySem.W.Frag) (x f : Str) : Addr := ma K (ga K x) f
def gAd (K : PySem.W.Frag) (x f : Str) : Addr := match PySem.W.recIn K (pAd K x f) "property" with
  | some (.ref g :: _) => g
  | _ => 0
def isGet (K : PySem.W.Frag) (x f : Str) : Bool := match PySem.W.recIn K (pAd K x f) "property" with
  | some (.ref _ :: _) => true
  | _ => false
def fnAt (K : PySem.W.Frag) (a : Addr) : FnW := match K.lookup a with
  | some ⟨_, _, .func fd, _⟩ => some (fd.name, fd.qualname, fd.params, fd.body, fd.scope, fd.globals, fd.closure, fd.builtins)
  | _ => none
def okAt (K : PySem.W.Frag) (a : Addr) (d : DefD) : Bool := PySem.W.keepIn K (.ref a) && (match K.lookup a with
  | some ⟨_, _, .func fd, _⟩ => PySem.W.codeIn K fd.code d.qual && (dflB K fd.defaults (d.dvs K) && kwdB K fd.kwdefaults (d.kws K))
  | _ => false)
/-- the getter d of the class x's property f -/
structure PrD where
  x : Str
  f : Str
  d : DefD
def PrD.ok (K : PySem.W.Frag) (p : PrD) : Bool := eqO (PySem.W.findIn K (.ref (ga K p.x)) p.f) (some (some (.ref (pAd K p.x p.f)))) && (eqO (PySem.W.specialIn K (.ref (pAd K p.x p.f)) "__get__") (some (some (.builtin "property.__get__"))) &&
  (decide (PySem.W.takesIn K (.ref (pAd K p.x p.f)) = some true) && (isGet K p.x p.f && okAt K (gAd K p.x p.f) p.d)))
theorem funAt {K : PySem.W.Frag} {a : Addr} {d : DefD} (e : fnAt K a = d.val) (c : okAt K a d = true) : ∃ fd, FunD K d.name d.qual d.params d.body d.scope (d.dvs K) (d.kws K) a fd := by
  obtain ⟨kp, c2⟩ := ba c
  unfold fnAt at e
  cases q : K.lookup a with
  | none =>
    rw [q] at c2
    cases c2
  | some o =>
    obtain ⟨oc, od, dt, osl⟩ := o
    rw [q] at c2 e
    cases dt with
    | func fd =>
      obtain ⟨n1, n2, n3, n4, n5, n6, n7, n8, n9, n10, n11, n12, n13, n14, n15⟩ := fd
      have e2 : (some (n1, n2, n3, n4, n5, n6, n7, n15) : FnW) = some (d.name, d.qual, d.params, .stmts d.body, d.scope, mainGlobals, [], builtinsNs) := e
      simp only [Option.some.injEq, Prod.mk.injEq] at e2
      obtain ⟨h1, h2, h3, h4, h5, h6, h7, h8⟩ := e2
      subst h1 h2 h3 h4 h5 h6 h7 h8
      have c3 : (PySem.W.codeIn K n13 d.qual && (dflB K n8 (d.dvs K) && kwdB K n9 (d.kws K))) = true := c2
      obtain ⟨k1, k2⟩ := ba c3
      obtain ⟨k3, k4⟩ := ba k2
      exact ⟨_, ⟨oc, od, n8, n9, n10, n11, n12, n13, n14, osl, rfl, q, k1, dflB_ok k3, kwdB_ok k4⟩, kp⟩
    | _ => cases c2
theorem PrD.prop {K : PySem.W.Frag} {p : PrD} (e : fnAt K (gAd K p.x p.f) = p.d.val) (c : p.ok K = true) :
    PropOf K (ga K p.x) p.f (pAd K p.x p.f) (gAd K p.x p.f) ∧ ∃ fd, FunD K p.d.name p.d.qual p.d.params p.d.body p.d.scope (p.d.dvs K) (p.d.kws K) (gAd K p.x p.f) fd := by
  obtain ⟨c1, c⟩ := ba c
  obtain ⟨c2, c⟩ := ba c
  obtain ⟨c3, c⟩ := ba c
  obtain ⟨c4, c5⟩ := ba c
  refine ⟨⟨eqO_ok c1, eqO_ok c2, of_decide_eq_true c3, ?_⟩, funAt e c5⟩
  unfold isGet at c4
  unfold gAd
  split at c4
  · rename_i g r eq
    rw [eq]
    exact ⟨r, rfl⟩
  · cases c4
abbrev AlP : Type := AlD × (Bool × List FnW)
def obsP (fa : List Fa) (fn : List DefD) (pr : List PrD) (K : PySem.W.Frag) : AlP := (obsD fa fn K, (pr.all fun p => p.ok K), pr.map fun p => fnAt K (gAd K p.x p.f))
def valP (fn : List DefD) (pr : List PrD) : AlP := (valD fn, true, pr.map fun p => p.d.val)
def SaysP (fa : List Fa) (fn : List DefD) (pr : List PrD) (K : PySem.W.Frag) : Prop := obsP fa fn pr K = valP fn pr
def obsPG (n : Nat) (fa : List Fa) (fn : List DefD) (pr : List PrD) (g : Addr → Option Obj) : AlP := obsP fa fn pr (frG g (asD g n))
def hookP (n : Nat) (fa : List Fa) (fn : List DefD) (pr : List PrD) : PySem.W.Hook where
  α := AlP
  obs := fun s => obsPG n fa fn pr s.heap.get?
  val := fun _ => valP fn pr
  says := fun _ h => ∃ K : PySem.W.Frag, K.In h ∧ SaysP fa fn pr K
  of := fun _ _ e => ⟨_, frG_in, e⟩
  keeps := fun _ _ _ ⟨K, hK, c⟩ k => ⟨K, PySem.W.Frag.In.keeps hK k, c⟩
theorem obsPG_eq {n : Nat} {fa : List Fa} {fn : List DefD} {pr : List PrD} {g : Addr → Option Obj} {s : Shared} (h : ∀ a, g a = s.heap.get? a) : obsPG n fa fn pr g = (hookP n fa fn pr).obs s := by
  have e : g = s.heap.get? := funext h
  rw [e] <;> rfl
section
variable {fa : List Fa} {fn : List DefD} {pr : List PrD} {K : PySem.W.Frag}
theorem SaysP.d (c : SaysP fa fn pr K) : SaysD fa fn K := congrArg (fun z : AlP => z.1) c
theorem SaysP.facts (c : SaysP fa fn pr K) {f : Fa} (h : f ∈ fa) : f.ok K = true := by
  obtain ⟨i, hi, e⟩ := List.mem_iff_getElem.mp h
  exact c.d.fact i (f := f) (by rw [List.getElem?_eq_getElem hi, e])
theorem SaysP.defs (c : SaysP fa fn pr K) {d : DefD} (h : d ∈ fn) : ∃ fd, FunD K d.name d.qual d.params d.body d.scope (d.dvs K) (d.kws K) (fAd K d.at_) fd := by
  obtain ⟨i, hi, e⟩ := List.mem_iff_getElem.mp h
  exact c.d.def_ i (d := d) (by rw [List.getElem?_eq_getElem hi, e])
theorem SaysP.props (c : SaysP fa fn pr K) (i : Nat) {p : PrD} (h : pr[i]? = some p := by rfl) :
    PropOf K (ga K p.x) p.f (pAd K p.x p.f) (gAd K p.x p.f) ∧ ∃ fd, FunD K p.d.name p.d.qual p.d.params p.d.body p.d.scope (p.d.dvs K) (p.d.kws K) (gAd K p.x p.f) fd := by
  have c2 : (pr.all fun p => p.ok K) = true := congrArg (fun z : AlP => z.2.1) c
  have e : pr.map (fun p => fnAt K (gAd K p.x p.f)) = pr.map fun p => p.d.val := congrArg (fun z : AlP => z.2.2) c
  have e2 : (pr.map (fun p => fnAt K (gAd K p.x p.f)))[i]? = (pr.map fun p => p.d.val)[i]? := by rw [e]
  rw [List.getElem?_map, List.getElem?_map, h] at e2
  exact PrD.prop (Option.some.inj e2) (List.all_eq_true.mp c2 p (List.mem_of_getElem? h))
end
end Pp

namespace Pp
open PySem PySem.Spec PyProof.Rows L2 TL
/-! ### readings that leave the heap as it is: Val, Ans (HandS.Steps); here what is wanted beside its own -/
def ValO (to : TO) (σ : L2.St) (H : Hp) (o : Option Int) : Prop := ∀ Q : Option Int → Hp → Prop, Q o H → to σ H Q
def ValA (ta : TA) (σ : L2.St) (H : Hp) (vs : List V) : Prop := ∀ Q : List V → Hp → Prop, Q vs H → ta σ H Q
def RVal (r : R2) (x y : V) (H : Hp) (z : V) : Prop := ∀ Q : VK, Q z H → r x y H Q
def SVal (sp : Sp) (vs : List V) (H : Hp) (z : V) : Prop := ∀ (Q : VK) (E : XK), Q z H → sp vs H Q E
section
variable {K : PySem.W.Frag} {σ : L2.St} {H H' : Hp} {ta tb tc te tx : TE} {t u : TT} {x y z v : V} {r : R2}
theorem va_to {w : V} (h : Val te σ H v) (e : v = w) : Val te σ H w := e ▸ h
theorem va_c : Val (tC v) σ H v := fun _ q => q
theorem va_var {i : Nat} (h : σ[i]? = some (some v)) : Val (tVar i) σ H v := fun _ q => ⟨v, h, q⟩
theorem va_op (ha : Val ta σ H x) (hb : Val tb σ H y) (hr : RVal r x y H z) : Val (tOp r ta tb) σ H z := fun Q q => ha _ (hb _ (hr Q q))
theorem va_neg {i : Int} (ha : Val ta σ H (.int i)) : Val (tUn (rU fun i => .int (-i)) ta) σ H (.int (-i)) := fun Q q => ha _ ⟨i, rfl, q⟩
theorem va_fld {a C dx : Addr} {fs : List (Str × V)} {f : Str} (ha : Val ta σ H (.ref a)) (ho : H a = some (.ins C dx fs)) (hc : Cls K C) (hn : NoAttr K C f) (hl : fs.lookup f = some v) : Val (tFld K ta f) σ H v := fun Q q => ha _ ⟨a, C, dx, fs, v, rfl, ho, hc, hn, hl, q⟩
theorem vo_none : ValO tNoPart σ H none := fun _ q => q
theorem vo_some {i : Int} (h : Val te σ H (.int i)) : ValO (tPart te) σ H (some i) := fun Q q => h _ ⟨i, rfl, q⟩
theorem va_slS {tl th : TO} {z : Str} {lo hi : Option Int} (h : Val te σ H (.str z)) (h1 : ValO tl σ H lo) (h2 : ValO th σ H hi) (hz : z.length ≤ sizeLine) : Val (tSl rSlS te tl th) σ H (.str (cutS z lo hi)) := fun Q q => h _ (h1 _ (h2 _ ⟨z, rfl, hz, q⟩))
theorem va_lenS {z : Str} (ha : Val ta σ H (.str z)) (hz : z.length ≤ sizeLine) : Val (tCB (fun xs H Q => ∃ z, xs = [.str z] ∧ z.length ≤ sizeLine ∧ Q (.int z.length) H) (tCons ta tNil)) σ H (.int (z.length : Int)) := fun Q q => ha _ ⟨z, rfl, hz, q⟩
theorem va_lenQ {p : Addr} {xs : List V} (ha : Val ta σ H (.ref p)) (h : SqL K H p xs ∨ SqT K H p xs) : Val (tCB (fun xs H Q => ∃ p ys, xs = [.ref p] ∧ (SqL K H p ys ∨ SqT K H p ys) ∧ Q (.int ys.length) H) (tCons ta tNil)) σ H (.int (xs.length : Int)) := fun Q q => ha _ ⟨p, xs, rfl, h, q⟩
theorem va_lenK {p : Addr} {xs : List V} (ha : Val ta σ H (.ref p)) (h : SqL K H p xs ∨ SqT K H p xs) : Val (tCB (rLenQ K) (tCons ta tNil)) σ H (.int (xs.length : Int)) := fun Q q => ha _ ⟨p, xs, rfl, h, q⟩
theorem va_strI {i : Int} (ha : Val ta σ H (.int i)) (hi : i.natAbs.log2 < 1920) : Val (tCB (fun xs H Q => ∃ i, xs = [.int i] ∧ i.natAbs.log2 < 1920 ∧ Q (.str (toString i)) H) (tCons ta tNil)) σ H (.str (toString i)) := fun Q q => ha _ ⟨i, rfl, hi, q⟩
theorem va_intI {i : Int} (ha : Val ta σ H (.int i)) : Val (tCB (fun xs H Q => (∃ i, xs = [.int i] ∧ Q (.int i) H) ∨ ∃ k, xs = [.bl k] ∧ Q (.int (if k then 1 else 0)) H) (tCons ta tNil)) σ H (.int i) := fun Q q => ha _ (.inl ⟨i, rfl, q⟩)
theorem va_intS {a : Str} {n : Int} (ha : Val ta σ H (.str a)) (hn : PySem.intText? a = some n) (hl : a.length ≤ 640) : Val (tCB (fun xs H Q => ∃ a n, xs = [.str a] ∧ PySem.intText? a = some n ∧ a.length ≤ 640 ∧ Q (.int n) H) (tCons ta tNil)) σ H (.int n) := fun Q q => ha _ ⟨a, n, rfl, hn, hl, q⟩
theorem va_mx2 {i j : Int} (ha : Val ta σ H (.int i)) (hb : Val tb σ H (.int j)) : Val (tCB (fun xs H Q => ∃ i j, xs = [.int i, .int j] ∧ Q (.int (if j > i then j else i)) H) (tCons ta (tCons tb tNil))) σ H (.int (if j > i then j else i)) := fun Q q => ha _ (hb _ ⟨i, j, rfl, q⟩)
theorem va_bm1 {a b : Str} {g : Str → Str → V} (ha : Val ta σ H (.str a)) (hb : Val tb σ H (.str b)) : Val (tBM K "str" (fun x xs H Q => ∃ a b, x = .str a ∧ xs = [.str b] ∧ Q (g a b) H) ta (tCons tb tNil)) σ H (g a b) := fun Q q => ha _ ⟨rfl, hb _ ⟨a, b, rfl, rfl, q⟩⟩
theorem va_chain {r r' : R2} {b c : Bool} (ha : Val ta σ H x) (hb : Val tb σ H y) (hc : Val tc σ H z) (h1 : RVal r x y H (.bl b)) (h2 : RVal r' y z H (.bl c)) : Val (tChain r r' ta tb tc) σ H (.bl (b && c)) := fun Q q => ha _ (hb _ (h1 _ ⟨b, rfl, by
  cases b with
  | true =>
    show tc σ H _
    exact hc _ (h2 Q q)
  | false => exact q⟩))
theorem va_andV {a b : Bool} (h1 : Val ta σ H (.bl a)) (h2 : a = true → Val tb σ H (.bl b)) : Val (tAndV ta tb) σ H (.bl (a && b)) := fun Q q => h1 _ ⟨a, rfl, by
  cases a with
  | true => exact h2 rfl Q q
  | false => exact q⟩
theorem va_orV {a b : Bool} (h1 : Val ta σ H (.bl a)) (h2 : a = false → Val tb σ H (.bl b)) : Val (tOrV ta tb) σ H (.bl (a || b)) := fun Q q => h1 _ ⟨a, rfl, by
  cases a with
  | true => exact q
  | false => exact h2 rfl Q q⟩
theorem va_notV {a : Bool} (h1 : Val ta σ H (.bl a)) : Val (tNotV ta) σ H (.bl (!a)) := fun Q q => h1 _ ⟨a, rfl, q⟩
theorem va_if {b : Bool} (h : Ans t σ H b) (h1 : b = true → Val ta σ H v) (h2 : b = false → Val tb σ H v) : Val (tIf t ta tb) σ H v := fun Q q => h _ (by
  cases b with
  | true => exact h1 rfl Q q
  | false => exact h2 rfl Q q)
theorem vl_nil : ValA tNil σ H [] := fun _ q => q
theorem vl_cons {tr : TA} {vs : List V} (h : Val ta σ H x) (hr : ValA tr σ H vs) : ValA (tCons ta tr) σ H (x :: vs) := fun Q q => h _ (hr _ q)
theorem va_call {sp : Sp} {dvs vs : List V} {E : XK} {ta : TA} (h : ValA ta σ H vs) (hs : SVal sp (vs ++ dvs) H z) : Val (tCall sp dvs E ta) σ H z := fun Q q => h _ (hs Q E q)
theorem va_cb {r : List V → Hp → VK → Prop} {ta : TA} {vs : List V} (h : ValA ta σ H vs) (hr : ∀ Q : VK, Q z H → r vs H Q) : Val (tCB r ta) σ H z := fun Q q => h _ (hr Q q)
theorem va_prop {C a dx : Addr} {fs : List (Str × V)} {sp : Sp} {E : XK} (ha : Val ta σ H (.ref a)) (ho : H a = some (.ins C dx fs)) (hs : SVal sp [.ref a] H v) : Val (tProp C sp [] E ta) σ H v := fun Q q => ha _ ⟨a, dx, fs, rfl, ho, hs Q E q⟩
theorem ra_I0 {g : Int → Int → V} {i j : Int} : RVal (rI0 g) (.int i) (.int j) H (g i j) := fun _ q => ⟨i, j, rfl, rfl, q⟩
theorem ra_I {C : Int → Int → Prop} {g : Int → Int → V} {i j : Int} (hc : C i j) : RVal (rI C g) (.int i) (.int j) H (g i j) := fun _ q => ⟨i, j, rfl, rfl, hc, q⟩
theorem ra_eq (h : scal x y = true) : RVal rEq x y H (.bl (decide (x = y))) := fun _ q => ⟨h, q⟩
theorem ra_ne (h : scal x y = true) : RVal rNe x y H (.bl (!decide (x = y))) := fun _ q => ⟨h, q⟩
theorem ra_addS {a b : Str} (h : a.length + b.length ≤ sizeLine) : RVal (fun x y H Q => ∃ i j, x = .str i ∧ y = .str j ∧ i.length + j.length ≤ sizeLine ∧ Q (.str (i ++ j)) H) (.str a) (.str b) H (.str (a ++ b)) := fun _ q => ⟨a, b, rfl, rfl, h, q⟩
theorem ra_inS {c : Nat} {z : Str} : RVal (fun x y H Q => ∃ (c : Nat) (z : Str), x = .str ⟨#[c]⟩ ∧ y = .str z ∧ Q (.bl (decide (c ∈ z.cps.toList))) H) (.str ⟨#[c]⟩) (.str z) H (.bl (decide (c ∈ z.cps.toList))) := fun _ q => ⟨c, z, rfl, rfl, q⟩
theorem ra_notInS {c : Nat} {z : Str} : RVal (fun x y H Q => ∃ (c : Nat) (z : Str), x = .str ⟨#[c]⟩ ∧ y = .str z ∧ Q (.bl (!decide (c ∈ z.cps.toList))) H) (.str ⟨#[c]⟩) (.str z) H (.bl (!decide (c ∈ z.cps.toList))) := fun _ q => ⟨c, z, rfl, rfl, q⟩
theorem ra_isN : RVal (fun x y H Q => y = .non ∧ Q (.bl (decide (x = .non))) H) x .non H (.bl (decide (x = .non))) := fun _ q => ⟨rfl, q⟩
theorem ra_notN : RVal (fun x y H Q => y = .non ∧ Q (.bl (!decide (x = .non))) H) x .non H (.bl (!decide (x = .non))) := fun _ q => ⟨rfl, q⟩
theorem ra_ixS {w : Str} {i : Int} {c : Nat} (h : w.length ≤ sizeLine) (ha : atI (tl w) i = some c) : RVal rIxS (.str w) (.int i) H (.str ⟨#[c]⟩) := fun _ q => ⟨w, i, c, rfl, rfl, h, ha, q⟩
theorem ra_ixL {p : Addr} {xs : List V} {i : Int} (h : SqL K H p xs) (ha : atI xs i = some v) : RVal (rIxL K) (.ref p) (.int i) H v := fun _ q => ⟨p, xs, i, v, rfl, rfl, h, ha, q⟩
theorem ra_ixT {p : Addr} {xs : List V} {i : Int} (h : SqT K H p xs) (ha : atI xs i = some v) : RVal (rIxT K) (.ref p) (.int i) H v := fun _ q => ⟨p, xs, i, v, rfl, rfl, h, ha, q⟩
theorem ra_eqD {d e : PyData} (hx : Dp K H x d) (hy : Dp K H y e) (s1 : SeqAt.shaped d = true) (s2 : SeqAt.shaped e = true) : RVal (rEqD K) x y H (.bl (PyData.eqv d e)) := fun _ q => ⟨d, e, hx, hy, s1, s2, q⟩
theorem ra_neD {d e : PyData} (hx : Dp K H x d) (hy : Dp K H y e) (s1 : SeqAt.shaped d = true) (s2 : SeqAt.shaped e = true) : RVal (rNeD K) x y H (.bl (!PyData.eqv d e)) := fun _ q => ⟨d, e, hx, hy, s1, s2, q⟩
theorem ra_inL {p : Addr} {xs : List V} {neg : Bool} (h : SqL K H p xs ∨ SqT K H p xs) (hx : flatV x = true) (ha : xs.all flatV = true) : RVal (rIn K neg) x (.ref p) H (.bl (if neg then !inV x xs else inV x xs)) := fun _ q => ⟨p, xs, rfl, h, hx, ha, q⟩
theorem an_test {b : Bool} (h : Val te σ H (.bl b)) : Ans (tTest te) σ H b := fun Q q => h _ ⟨b, rfl, q⟩
theorem an_B {b : Bool} (h : Val te σ H (.bl b)) : Ans (tB te) σ H b := fun Q q => h _ ⟨b, rfl, q⟩
theorem an_and {a b : Bool} (h1 : Ans t σ H a) (h2 : a = true → Ans u σ H b) : Ans (tAnd t u) σ H (a && b) := fun Q q => h1 _ (by
  cases a with
  | true => exact h2 rfl Q q
  | false => exact q)
theorem an_or {a b : Bool} (h1 : Ans t σ H a) (h2 : a = false → Ans u σ H b) : Ans (tOr t u) σ H (a || b) := fun Q q => h1 _ (by
  cases a with
  | true => exact q
  | false => exact h2 rfl Q q)
theorem an_not {a : Bool} (h1 : Ans t σ H a) : Ans (tNot t) σ H (!a) := fun Q q => h1 _ q
/-! ### statements -/
variable {D : Ends} {tu tw tz : TS} {g : TG}
theorem z_set {i : Nat} (h : Val te σ H v) (k : D.nx (σ.set i (some v)) H) : tAsg te (gName i) D σ H := h _ k
theorem zs_set {i : Nat} (h : Val te σ H v) (k : tz D (σ.set i (some v)) H) : tSeq (tAsg te (gName i)) tz D σ H := h _ k
theorem z_ret (h : Val te σ H v) (k : D.rt v H) : tRet te D σ H := h _ k
theorem z_drop (h : Val te σ H v) (k : D.nx σ H) : tDrop te D σ H := h _ k
theorem zs_drop (h : Val te σ H v) (k : tz D σ H) : tSeq (tDrop te) tz D σ H := h _ k
theorem z_if {b : Bool} (h : Ans t σ H b) (h1 : b = true → tu D σ H) (h2 : b = false → tw D σ H) : tIfS t tu tw D σ H := h _ (by
  cases b with
  | true => exact h1 rfl
  | false => exact h2 rfl)
theorem zs_if {b : Bool} (h : Ans t σ H b) (h1 : b = true → tu { D with nx := tz D } σ H) (h2 : b = false → tw { D with nx := tz D } σ H) : tSeq (tIfS t tu tw) tz D σ H := z_if (D := { D with nx := tz D }) h h1 h2
theorem zs_when {b : Bool} (h : Ans t σ H b) (h1 : b = true → tu { D with nx := tz D } σ H) (h2 : b = false → tz D σ H) : tSeq (tIfS t tu tNext) tz D σ H := z_if (D := { D with nx := tz D }) h h1 h2
theorem z_when {b : Bool} (h : Ans t σ H b) (h1 : b = true → tu D σ H) (h2 : b = false → D.nx σ H) : tIfS t tu tNext D σ H := z_if h h1 h2
theorem z_aug {i : Nat} {f : Int → Int → Int} {a b : Int} (hx : σ[i]? = some (some (.int a))) (h : Val te σ H (.int b)) (k : D.nx (σ.set i (some (.int (f a b)))) H) : tAug i te (ipI f) D σ H := ⟨.int a, hx, h _ ⟨a, b, rfl, rfl, k⟩⟩
theorem zs_aug {i : Nat} {f : Int → Int → Int} {a b : Int} (hx : σ[i]? = some (some (.int a))) (h : Val te σ H (.int b)) (k : tz D (σ.set i (some (.int (f a b)))) H) : tSeq (tAug i te (ipI f)) tz D σ H := ⟨.int a, hx, h _ ⟨a, b, rfl, rfl, k⟩⟩
theorem z_fld {a C dx : Addr} {fs : List (Str × V)} {f : Str} {tv : TE} (hv : Val tv σ H y) (ha : Val ta σ H (.ref a)) (ho : H a = some (.ins C dx fs)) (hc : Cls K C) (hn : NoAttr K C f) (hl : fs.length < 1000) (q : D.nx σ (upd H a (.ins C dx (putF f y fs)))) : sFld K ta tv f D σ H := hv _ (ha _ ⟨a, C, dx, fs, rfl, ho, hc, hn, hl, q⟩)
theorem zs_fld {a C dx : Addr} {fs : List (Str × V)} {f : Str} {tv : TE} (hv : Val tv σ H y) (ha : Val ta σ H (.ref a)) (ho : H a = some (.ins C dx fs)) (hc : Cls K C) (hn : NoAttr K C f) (hl : fs.length < 1000) (q : tz D σ (upd H a (.ins C dx (putF f y fs)))) : tSeq (sFld K ta tv f) tz D σ H := hv _ (ha _ ⟨a, C, dx, fs, rfl, ho, hc, hn, hl, q⟩)
theorem zs_fldraw {f : Str} {tv : TE} (h : tv σ H fun y H1 => ta σ H1 fun x H2 => ∃ a C dx fs, x = .ref a ∧ H2 a = some (.ins C dx fs) ∧ Cls K C ∧ NoAttr K C f ∧ fs.length < 1000 ∧ tz D σ (upd H2 a (.ins C dx (putF f y fs)))) : tSeq (sFld K ta tv f) tz D σ H := h
theorem z_fldraw {f : Str} {tv : TE} (h : tv σ H fun y H1 => ta σ H1 fun x H2 => ∃ a C dx fs, x = .ref a ∧ H2 a = some (.ins C dx fs) ∧ Cls K C ∧ NoAttr K C f ∧ fs.length < 1000 ∧ D.nx σ (upd H2 a (.ins C dx (putF f y fs)))) : sFld K ta tv f D σ H := h
theorem zs_fldaug {a C dx : Addr} {fs : List (Str × V)} {f : Str} {tv : TE} {rd : V → V → Hp → VK → Prop} (ha : Val ta σ H (.ref a)) (ho : H a = some (.ins C dx fs)) (hc : Cls K C) (hn : NoAttr K C f) (hk : fs.lookup f = some x) (hv : Val tv σ H y) (hr : ∀ Q : VK, Q z H → rd x y H Q)
    (hl : fs.length < 1000) (q : tz D σ (upd H a (.ins C dx (putF f z fs)))) : tSeq (sFldAug K ta tv rd f) tz D σ H := ha _ ⟨a, C, dx, fs, x, rfl, ho, hc, hn, hk, hv _ (hr _ ⟨dx, fs, ho, hl, q⟩)⟩
theorem z_fldaug {a C dx : Addr} {fs : List (Str × V)} {f : Str} {tv : TE} {rd : V → V → Hp → VK → Prop} (ha : Val ta σ H (.ref a)) (ho : H a = some (.ins C dx fs)) (hc : Cls K C) (hn : NoAttr K C f) (hk : fs.lookup f = some x) (hv : Val tv σ H y) (hr : ∀ Q : VK, Q z H → rd x y H Q)
    (hl : fs.length < 1000) (q : D.nx σ (upd H a (.ins C dx (putF f z fs)))) : sFldAug K ta tv rd f D σ H := ha _ ⟨a, C, dx, fs, x, rfl, ho, hc, hn, hk, hv _ (hr _ ⟨dx, fs, ho, hl, q⟩)⟩
/-! ### loops -/
theorem zs_forL {a : Addr} {xs : List V} {tl : TE} {j : Nat} (h : Val tl σ H (.ref a)) (hx : SqL K H a xs) (Pv : Nat → L2.St → Hp → Prop) (h0 : Pv 0 σ H) (hl : ∀ i σ' H', i ≤ xs.length → Pv i σ' H' → SqL K H' a xs)
    (hs : ∀ i x σ' H', xs[i]? = some x → Pv i σ' H' → tu { D with nx := Pv (i + 1), ct := Pv (i + 1), bk := tz D } (σ'.set j (some x)) H') (hd : ∀ σ' H', Pv xs.length σ' H' → tz D σ' H') : tSeq (tFor (iList K tl) (gName j) tu) tz D σ H :=
  h _ ⟨a, rfl, ⟨xs, hx⟩, for_list (D := { D with nx := tz D }) Pv h0 hl hs hd⟩
theorem z_forL {a : Addr} {xs : List V} {tl : TE} {j : Nat} (h : Val tl σ H (.ref a)) (hx : SqL K H a xs) (Pv : Nat → L2.St → Hp → Prop) (h0 : Pv 0 σ H) (hl : ∀ i σ' H', i ≤ xs.length → Pv i σ' H' → SqL K H' a xs)
    (hs : ∀ i x σ' H', xs[i]? = some x → Pv i σ' H' → tu { D with nx := Pv (i + 1), ct := Pv (i + 1), bk := D.nx } (σ'.set j (some x)) H') (hd : ∀ σ' H', Pv xs.length σ' H' → D.nx σ' H') : tFor (iList K tl) (gName j) tu D σ H :=
  h _ ⟨a, rfl, ⟨xs, hx⟩, for_list Pv h0 hl hs hd⟩
theorem zs_forT {a : Addr} {xs : List V} {tl : TE} {j : Nat} (h : Val tl σ H (.ref a)) (hx : SqT K H a xs) (Pv : Nat → L2.St → Hp → Prop) (h0 : Pv 0 σ H) (hl : ∀ i σ' H', i ≤ xs.length → Pv i σ' H' → SqT K H' a xs)
    (hs : ∀ i x σ' H', xs[i]? = some x → Pv i σ' H' → tu { D with nx := Pv (i + 1), ct := Pv (i + 1), bk := tz D } (σ'.set j (some x)) H') (hd : ∀ σ' H', Pv xs.length σ' H' → tz D σ' H') : tSeq (tFor (iTup K tl) (gName j) tu) tz D σ H :=
  h _ ⟨a, rfl, ⟨xs, hx⟩, for_tup (D := { D with nx := tz D }) Pv h0 hl hs hd⟩
theorem zs_forR {ta : TA} {j : Nat} {n : Int} (h : ValA ta σ H [.int n]) (hn : n ≤ 100000) (hn0 : -100000 ≤ n) (Pv : Nat → L2.St → Hp → Prop) (h0 : Pv 0 σ H)
    (hs : ∀ (i : Nat) σ' H', (i : Int) < n → Pv i σ' H' → tu { D with nx := Pv (i + 1), ct := Pv (i + 1), bk := tz D } (σ'.set j (some (.int (i : Int)))) H') (hd : ∀ σ' H', Pv n.toNat σ' H' → tz D σ' H') : tSeq (tFor (iRng1 ta) (gName j) tu) tz D σ H :=
  h _ ⟨n, rfl, by omega, by omega, for_range (D := { D with nx := tz D }) (lo := 0) (n := n.toNat) Pv h0 (fun i σ' H' hi p => by
    have e0 : (0 : Int) + (i : Int) = (i : Int) := Int.zero_add _
    show tu { D with nx := Pv (i + 1), ct := Pv (i + 1), bk := tz D } (σ'.set j (some (.int ((0 : Int) + (i : Int))))) H'
    rw [e0]
    exact hs i σ' H' (by omega) p) hd⟩
theorem z_forR {ta : TA} {j : Nat} {n : Int} (h : ValA ta σ H [.int n]) (hn : n ≤ 100000) (hn0 : -100000 ≤ n) (Pv : Nat → L2.St → Hp → Prop) (h0 : Pv 0 σ H)
    (hs : ∀ (i : Nat) σ' H', (i : Int) < n → Pv i σ' H' → tu { D with nx := Pv (i + 1), ct := Pv (i + 1), bk := D.nx } (σ'.set j (some (.int (i : Int)))) H') (hd : ∀ σ' H', Pv n.toNat σ' H' → D.nx σ' H') : tFor (iRng1 ta) (gName j) tu D σ H :=
  h _ ⟨n, rfl, by omega, by omega, for_range (lo := 0) (n := n.toNat) Pv h0 (fun i σ' H' hi p => by
    have e0 : (0 : Int) + (i : Int) = (i : Int) := Int.zero_add _
    show tu { D with nx := Pv (i + 1), ct := Pv (i + 1), bk := D.nx } (σ'.set j (some (.int ((0 : Int) + (i : Int))))) H'
    rw [e0]
    exact hs i σ' H' (by omega) p) hd⟩
theorem zs_when_k {b : Bool} (R : Hp → Prop) (h : Ans t σ H b) (h1 : b = true → ∀ Nx : L2.St → Hp → Prop, (∀ H', R H' → Nx σ H') → tu { D with nx := Nx } σ H) (h2 : b = false → R H) (k : ∀ H', R H' → tz D σ H') : tSeq (tIfS t tu tNext) tz D σ H :=
  zs_when h (fun e => h1 e _ k) (fun e => k _ (h2 e))
theorem zs_call {i : Nat} {sp : Sp} {dvs vs : List V} {E : XK} {ta : TA} (h : ValA ta σ H vs) (hs : sp (vs ++ dvs) H (fun v H' => tz D (σ.set i (some v)) H') E) : tSeq (tAsg (tCall sp dvs E ta) (gName i)) tz D σ H := h _ hs
theorem z_retcall {sp : Sp} {dvs vs : List V} {E : XK} {ta : TA} (h : ValA ta σ H vs) (hs : sp (vs ++ dvs) H D.rt E) : tRet (tCall sp dvs E ta) D σ H := h _ hs
theorem zs_rawd (h : te σ H fun _ H1 => tz D σ H1) : tSeq (tDrop te) tz D σ H := h
theorem z_rawd (h : te σ H fun _ H1 => D.nx σ H1) : tDrop te D σ H := h
theorem z_rawr (h : te σ H fun v H1 => D.rt v H1) : tRet te D σ H := h
theorem zs_raw {i : Nat} (h : te σ H fun v H1 => tz D (σ.set i (some v)) H1) : tSeq (tAsg te (gName i)) tz D σ H := h
theorem z_raw {i : Nat} (h : te σ H fun v H1 => D.nx (σ.set i (some v)) H1) : tAsg te (gName i) D σ H := h
theorem zs_asg (h : Val te σ H v) (k : g v σ H (tz D)) : tSeq (tAsg te g) tz D σ H := h _ k
theorem z_asg (h : Val te σ H v) (k : g v σ H D.nx) : tAsg te g D σ H := h _ k
theorem zs_cut {M : L2.St → Hp → Prop} (h : tu { D with nx := M } σ H) (k : ∀ σ' H', M σ' H' → tz D σ' H') : Evl.tCut tu tz D σ H := ⟨M, h, k⟩
/-- a text's for -/
theorem for_str {x : Str} {g : TG} {tb : TS} {D : Ends} {σ : L2.St} {H : Hp} (Pv : Nat → L2.St → Hp → Prop) (h0 : Pv 0 σ H)
    (hs : ∀ i c σ H, (tl x)[i]? = some c → Pv i σ H → g (.str ⟨#[c]⟩) σ H fun σ2 H2 => tb { D with nx := Pv (i + 1), ct := Pv (i + 1), bk := D.nx } σ2 H2) (hd : ∀ σ H, Pv (tl x).length σ H → D.nx σ H) :
    ∃ W : Nat → Nat → L2.St → Hp → Prop, (∃ m, W 0 m σ H) ∧ ∀ i m σ H, W i m σ H →
      ((Its x).stop i H ∧ D.nx σ H) ∨ ((Its x).go i H ∧ ∃ N : L2.St → Hp → Prop, (∀ σ' H', N σ' H' → ∃ m', m' < m ∧ W (i + 1) m' σ' H') ∧ ∀ y H', (Its x).yld i H y H' → g y σ H' fun σ2 H2 => tb { D with nx := N, ct := N, bk := D.nx } σ2 H2) := by
  have hn : x.cps.size = (tl x).length := by simp [tl]
  refine ⟨fun i m σ H => m = (tl x).length - i ∧ i ≤ (tl x).length ∧ Pv i σ H, ⟨(tl x).length, by simp, Nat.zero_le _, h0⟩, ?_⟩
  rintro i m σ H ⟨rfl, hi, p⟩
  by_cases hlt : i < (tl x).length
  · refine .inr ⟨by show i < x.cps.size; omega, Pv (i + 1), fun σ' H' p' => ⟨(tl x).length - (i + 1), by omega, rfl, hlt, p'⟩, fun y H' yy => ?_⟩
    obtain ⟨e, c, hc, ev⟩ := yy
    subst e ev
    exact hs i c σ _ (by simpa [tl] using hc) p
  · have e : i = (tl x).length := by omega
    subst e
    exact .inl ⟨by show x.cps.size ≤ (tl x).length; omega, hd σ H p⟩
theorem zs_forS {x : Str} {te : TE} {j : Nat} (h : Val te σ H (.str x)) (Pv : Nat → L2.St → Hp → Prop) (h0 : Pv 0 σ H)
    (hs : ∀ i c σ' H', (tl x)[i]? = some c → Pv i σ' H' → tu { D with nx := Pv (i + 1), ct := Pv (i + 1), bk := tz D } (σ'.set j (some (.str ⟨#[c]⟩))) H') (hd : ∀ σ' H', Pv (tl x).length σ' H' → tz D σ' H') : tSeq (tFor (iStr te) (gName j) tu) tz D σ H :=
  h _ ⟨x, rfl, for_str (D := { D with nx := tz D }) Pv h0 hs hd⟩
end
end Pp

namespace Pp
open PySem PySem.Spec PyProof.Rows L2 TL PySem.StrLaws
abbrev NL : Str := ("\n" : Str)
theorem tl_NL : tl NL = [10] := by rfl
theorem str_len (a b : Str) : (a ++ b).length = a.length + b.length := by
  rw [len_tl, tl_append, List.length_append, ← len_tl, ← len_tl]
/-! ### slices -/
theorem cut_to (z : Str) (n : Nat) : tl (cutS z none (some (n : Int))) = (tl z).take n := by
  show List.take (HT.sIx z.length z.length (some (n : Int)) - HT.sIx z.length 0 none) (List.drop (HT.sIx z.length 0 none) (tl z)) = _
  rw [HT.sIx_none, HT.sIx_nat, List.drop_zero, Nat.sub_zero, len_tl, List.take_eq_take_iff]
  omega
theorem cut_from (z : Str) (n : Nat) : tl (cutS z (some (n : Int)) none) = (tl z).drop n := by
  show List.take (HT.sIx z.length z.length none - HT.sIx z.length 0 (some (n : Int))) (List.drop (HT.sIx z.length 0 (some (n : Int))) (tl z)) = _
  rw [HT.sIx_none, HT.sIx_nat, len_tl]
  by_cases h : n ≤ (tl z).length
  · rw [Nat.min_eq_left h, List.take_of_length_le (by rw [List.length_drop]; exact Nat.le_refl _)]
  · rw [Nat.min_eq_right (by omega), List.drop_of_length_le (Nat.le_refl _), List.drop_of_length_le (by omega)]
    exact List.take_nil
theorem cut_to6 (z : Str) : tl (cutS z none (some 6)) = (tl z).take 6 := cut_to z 6
theorem cut_to8 (z : Str) : tl (cutS z none (some 8)) = (tl z).take 8 := cut_to z 8
theorem cut_from6 (z : Str) : tl (cutS z (some 6) none) = (tl z).drop 6 := cut_from z 6
theorem cut_from8 (z : Str) : tl (cutS z (some 8) none) = (tl z).drop 8 := cut_from z 8
/-! ### what is kept: up to the last line feed -/
def keptL : List Nat → List Nat
  | [] => []
  | c :: r => if keptL r = [] then (if c = 10 then [10] else []) else c :: keptL r
theorem keptL_nil {l : List Nat} : keptL l = [] ↔ 10 ∉ l := by
  induction l with
  | nil => simp [keptL]
  | cons c r ih =>
    unfold keptL
    by_cases h : keptL r = []
    · rw [if_pos h]
      have h2 := ih.mp h
      by_cases hc : c = 10
      · simp [hc]
      · simp only [hc, if_false, List.mem_cons, true_iff, not_or]
        exact ⟨fun e => hc e.symm, h2⟩
    · rw [if_neg h]
      simp only [List.mem_cons, not_or, reduceCtorEq, false_iff, not_and]
      intro _ h3
      exact h (ih.mpr h3)
theorem keptL_take : ∀ (l : List Nat) (i : Nat), l[i]? = some 10 → (∀ k, i < k → l[k]? ≠ some 10) → keptL l = l.take (i + 1)
  | [], i, h, _ => by simp at h
  | c :: r, 0, h, hn => by
    have hr : keptL r = [] := keptL_nil.mpr fun hm => by
      obtain ⟨k, hk, e⟩ := List.mem_iff_getElem.mp hm
      exact hn (k + 1) (by omega) (by rw [List.getElem?_cons_succ, List.getElem?_eq_getElem hk, e])
    have hc : c = 10 := by simpa using h
    unfold keptL
    rw [if_pos hr, if_pos hc, hc]
    rfl
  | c :: r, i + 1, h, hn => by
    have ih := keptL_take r i (by simpa using h) fun k hk => by
      have := hn (k + 1) (by omega)
      simpa using this
    have hne : keptL r ≠ [] := fun e => by
      have := keptL_nil.mp e
      exact this (List.mem_of_getElem? (by simpa using h))
    rw [show keptL (c :: r) = if keptL r = [] then (if c = 10 then [10] else []) else c :: keptL r from rfl, if_neg hne, ih]
    rfl
theorem at_NL (z : Str) (i : Nat) : At z NL z.length i ↔ (tl z)[i]? = some 10 := by
  rw [at_iff (by rw [tl_NL]; simp), tl_NL]
  unfold TL.pre
  rw [beq_iff_eq]
  cases h : (tl z).drop i with
  | nil =>
    have : (tl z).length ≤ i := List.drop_eq_nil_iff.mp h
    rw [List.getElem?_eq_none this]
    simp
  | cons c r =>
    have e : (tl z)[i]? = some c := by
      have := congrArg (fun l => l[0]?) h
      simpa using this
    rw [e]
    simp
theorem kept_eq (z : Str) : tl (cutS z none (some (Txt.rfind z NL + 1))) = keptL (tl z) := by
  unfold Txt.rfind
  rcases last_spec z NL with ⟨e, hn⟩ | ⟨i, e, ha, hn⟩
  · rw [e]
    have h1 : keptL (tl z) = [] := keptL_nil.mpr fun hm => by
      obtain ⟨k, hk, e2⟩ := List.mem_iff_getElem.mp hm
      exact hn k ((at_NL z k).mpr (by rw [List.getElem?_eq_getElem hk, e2]))
    rw [h1]
    exact cut_to z 0
  · rw [e]
    have h1 := keptL_take (tl z) i ((at_NL z i).mp ha) fun k hk h => hn k hk ((at_NL z k).mpr h)
    rw [h1]
    exact cut_to z (i + 1)
theorem keptL_pre (l : List Nat) : ∃ n, keptL l = l.take n := by
  by_cases h : 10 ∈ l
  · have : keptL l ≠ [] := fun e => keptL_nil.mp e h
    clear h
    induction l with
    | nil => exact absurd rfl this
    | cons c r ih =>
      unfold keptL at this ⊢
      by_cases h2 : keptL r = []
      · rw [if_pos h2] at this ⊢
        by_cases hc : c = 10
        · exact ⟨1, by rw [if_pos hc, hc] <;> rfl⟩
        · rw [if_neg hc] at this
          exact absurd rfl this
      · rw [if_neg h2]
        obtain ⟨n, hn⟩ := ih h2
        exact ⟨n + 1, by rw [hn] <;> rfl⟩
  · exact ⟨0, by rw [keptL_nil.mpr h] <;> rfl⟩
/-! ### counts -/
theorem partsFrom_len (x : Str) (w : Nat) : ∀ (cuts : List Nat) (a : Nat), (partsFrom x w a cuts).length = cuts.length + 1
  | [], _ => rfl
  | c :: r, a => by
    show (partsFrom x w (c + w) r).length + 1 = _
    rw [partsFrom_len x w r]
    rfl
theorem count_spl (x y : Str) (hy : tl y ≠ []) : Txt.count x y = (((spl (tl y) 0 [] (tl x)).length - 1 : Nat) : Int) := by
  obtain ⟨f, g, hn⟩ := occ_tight x y (len1 hy)
  have key := congrArg List.length (parts_spl hy _ 0 f (Nat.zero_le _) g hn)
  rw [List.drop_zero, List.length_map, partsFrom_len] at key
  rw [← key]
  rfl
/-! ### lines -/
def joinNL (ls : List (List Nat)) : List Nat := (ls.map (· ++ [10])).flatten
theorem split_NL (z : Str) : (Txt.split z NL).map tl = spl [10] 0 [] (tl z) := by
  have := split_spl z NL (by rw [tl_NL]; simp) (kind_ok (by decide +kernel))
  rw [tl_NL] at this
  exact this
theorem spl_joinNL : ∀ {ls : List (List Nat)}, (∀ p ∈ ls, 10 ∉ p) → spl [10] 0 [] (joinNL ls) = ls ++ [[]]
  | [], _ => rfl
  | p :: r, hp => by
    have h1 := spl_part1 (s := 10) (S := []) (p := p) (rest := joinNL r) (acc := []) (hp p (List.mem_cons_self ..))
    have e : joinNL (p :: r) = p ++ (10 :: [] ++ joinNL r) := by
      show (p ++ [10]) ++ joinNL r = _
      simp
    rw [e, h1, List.nil_append, spl_joinNL fun q hq => hp q (List.mem_cons_of_mem _ hq)]
    rfl
/-- a text that is empty or ends with a line feed, by its lines -/
def lns : List Nat → List (List Nat)
  | [] => []
  | c :: r => if c = 10 then [] :: lns r else match lns r with
    | [] => [[c]]
    | p :: q => (c :: p) :: q
theorem lns_free : ∀ l : List Nat, ∀ p ∈ lns l, 10 ∉ p
  | [], p, h => by cases h
  | c :: r, p, h => by
    unfold lns at h
    by_cases hc : c = 10
    · rw [if_pos hc] at h
      rcases List.mem_cons.mp h with e | h
      · rw [e]; simp
      · exact lns_free r p h
    · rw [if_neg hc] at h
      cases e : lns r with
      | nil =>
        rw [e] at h
        rcases List.mem_cons.mp h with e | h
        · rw [e]; simp; exact fun z => hc z.symm
        · cases h
      | cons a b =>
        rw [e] at h
        rcases List.mem_cons.mp h with e2 | h
        · have := lns_free r a (by rw [e]; exact List.mem_cons_self ..)
          rw [e2]
          simp only [List.mem_cons, not_or]
          exact ⟨fun z => hc z.symm, this⟩
        · exact lns_free r p (by rw [e]; exact List.mem_cons_of_mem _ h)
theorem lns_join : ∀ l : List Nat, keptL l = l → joinNL (lns l) = l
  | [], _ => rfl
  | c :: r, h => by
    have hk : keptL r = r ∨ (r = [] ∧ c = 10) := by
      unfold keptL at h
      by_cases h2 : keptL r = []
      · rw [if_pos h2] at h
        by_cases hc : c = 10
        · rw [if_pos hc] at h
          have : r = [] := by have := congrArg List.tail h; simpa using this.symm
          exact .inr ⟨this, hc⟩
        · rw [if_neg hc] at h
          cases h
      · rw [if_neg h2] at h
        exact .inl (List.cons.inj h).2
    rcases hk with hk | ⟨rfl, rfl⟩
    · have ih := lns_join r hk
      unfold lns
      by_cases hc : c = 10
      · rw [if_pos hc, hc]
        show ([] ++ [10]) ++ joinNL (lns r) = _
        rw [ih] <;> rfl
      · rw [if_neg hc]
        cases e : lns r with
        | nil =>
          rw [e] at ih
          have hr : r = [] := ih.symm
          subst hr
          unfold keptL at h
          rw [if_pos (show keptL [] = [] from rfl), if_neg hc] at h
          cases h
        | cons p q =>
          rw [e] at ih
          show (c :: p ++ [10]) ++ joinNL q = _
          rw [← ih]
          rfl
    · rfl
theorem spl_kept {l : List Nat} (h : keptL l = l) : spl [10] 0 [] l = lns l ++ [[]] := by
  have e := lns_join l h
  have := spl_joinNL (lns_free l)
  rw [e] at this
  exact this
theorem keptL_kept (l : List Nat) : keptL (keptL l) = keptL l := by
  induction l with
  | nil => rfl
  | cons c r ih =>
    by_cases h : keptL r = []
    · by_cases hc : c = 10
      · simp [keptL, h, hc]
      · simp [keptL, h, hc]
    · have e : keptL (c :: r) = c :: keptL r := by
        show (if keptL r = [] then (if c = 10 then [10] else []) else c :: keptL r) = _
        rw [if_neg h]
      rw [e]
      show (if keptL (keptL r) = [] then (if c = 10 then [10] else []) else c :: keptL (keptL r)) = _
      rw [ih, if_neg h]
theorem keptL_joinNL : ∀ {ls : List (List Nat)}, keptL (joinNL ls) = joinNL ls
  | [] => rfl
  | p :: r => by
    have ih := keptL_joinNL (ls := r)
    show keptL ((p ++ [10]) ++ joinNL r) = (p ++ [10]) ++ joinNL r
    have base : keptL ([10] ++ joinNL r) = [10] ++ joinNL r := by
      show (if keptL (joinNL r) = [] then (if (10 : Nat) = 10 then [10] else []) else 10 :: keptL (joinNL r)) = _
      rw [ih]
      by_cases h : joinNL r = []
      · rw [if_pos h, h] <;> rfl
      · rw [if_neg h] <;> rfl
    rw [List.append_assoc]
    induction p with
    | nil => exact base
    | cons c q iq =>
      show (if keptL (q ++ ([10] ++ joinNL r)) = [] then (if c = 10 then [10] else []) else c :: keptL (q ++ ([10] ++ joinNL r))) = _
      rw [iq, if_neg (by simp)]
      rfl
theorem lns_joinNL {ls : List (List Nat)} (h : ∀ p ∈ ls, 10 ∉ p) : lns (joinNL ls) = ls := by
  have e1 := spl_kept (keptL_joinNL (ls := ls))
  rw [spl_joinNL h] at e1
  exact (List.append_inj_left' e1 rfl).symm
end Pp
namespace Pp
open PySem PySem.Spec PyProof.Rows L2 TL PySem.StrLaws
theorem lns_len : ∀ l : List Nat, (lns l).length ≤ l.length ∧ ∀ p ∈ lns l, p.length ≤ l.length
  | [] => ⟨Nat.le_refl _, fun p h => by cases h⟩
  | c :: r => by
    obtain ⟨h1, h2⟩ := lns_len r
    unfold lns
    by_cases hc : c = 10
    · rw [if_pos hc]
      refine ⟨by simp only [List.length_cons]; omega, fun p hp => ?_⟩
      rcases List.mem_cons.mp hp with e | hp
      · rw [e]; simp
      · have := h2 p hp; simp only [List.length_cons]; omega
    · rw [if_neg hc]
      cases e : lns r with
      | nil => exact ⟨by simp, fun p hp => by rw [List.mem_singleton.mp hp]; simp⟩
      | cons a b =>
        rw [e] at h1 h2
        refine ⟨by simp only [List.length_cons] at *; omega, fun p hp => ?_⟩
        rcases List.mem_cons.mp hp with e2 | hp
        · have := h2 a (List.mem_cons_self ..)
          rw [e2]; simp only [List.length_cons]; omega
        · have := h2 p (List.mem_cons_of_mem _ hp); simp only [List.length_cons]; omega
theorem cutV_init (xs : List V) : cutV xs none (some (-1)) = xs.dropLast := by
  show List.take (HT.sIx xs.length xs.length (some (-1)) - HT.sIx xs.length 0 none) (List.drop (HT.sIx xs.length 0 none) xs) = _
  rw [HT.sIx_none, List.drop_zero, List.dropLast_eq_take]
  congr 1
  show (((-1 : Int) + (xs.length : Int)).toNat) - 0 = _
  omega
theorem cutV_tail (xs : List V) : cutV xs (some 1) none = xs.drop 1 := by
  show List.take (HT.sIx xs.length xs.length none - HT.sIx xs.length 0 (some 1)) (List.drop (HT.sIx xs.length 0 (some 1)) xs) = _
  rw [HT.sIx_none, show HT.sIx xs.length 0 (some 1) = min 1 xs.length from HT.sIx_nat xs.length 0 1]
  cases xs with
  | nil => rfl
  | cons a r =>
    rw [show min 1 (a :: r).length = 1 by simp only [List.length_cons]; omega, List.take_of_length_le (by simp)]
theorem cutV_to (xs : List V) (n : Nat) : cutV xs none (some (n : Int)) = xs.take n := by
  show List.take (HT.sIx xs.length xs.length (some (n : Int)) - HT.sIx xs.length 0 none) (List.drop (HT.sIx xs.length 0 none) xs) = _
  rw [HT.sIx_none, HT.sIx_nat, List.drop_zero, Nat.sub_zero, List.take_eq_take_iff]
  omega
end Pp

namespace Pk
open PySem PySem.Spec PyProof.Rows L2 Pp
def topS (i : Nat) : Stmt := PySem.Challenge.pw_promiseplay_k62_whole_recovery.main.body.getD i (.Pass ⟨0, 0, 0, 0⟩)
def dG (x : Str) (i : Nat) : He.DefD := ⟨(x, none), x, x, defArgs (topS i), defBody (topS i), defScope (topS i), [], []⟩
def dM (c m q : Str) (i j : Nat) (kw : List (Str × He.Dv)) : He.DefD := ⟨(c, some m), m, q, defArgs (inClass (topS i) j), defBody (inClass (topS i) j), defScope (inClass (topS i) j), [], kw⟩
def fn : List He.DefD := [dM "Journal" "__init__" "Journal.__init__" 7 0 [("spacing", .int 4)], dM "Journal" "hear" "Journal.hear" 7 2 [], dG "read_number" 8, dG "read_letter" 9, dG "recover" 10, dG "all_below" 12,
  dM "Machine" "__init__" "Machine.__init__" 14 0 [], dG "_law_draws" 17, dG "_law_take" 18, dG "_law_flat" 19, dG "_law_machine" 20, dG "_law_same_journal" 21, dG "law" 22]
def pr : List PrD := [⟨"Journal", "said", ⟨("said", none), "said", "Journal.said", defArgs (inClass (topS 7) 1), defBody (inClass (topS 7) 1), defScope (inClass (topS 7) 1), [], []⟩⟩]
open He.Fa in
def fa : List He.Fa := [glo "law", glo "read_number", glo "read_letter", glo "recover", glo "all_below", glo "_law_draws", glo "_law_take", glo "_law_flat", glo "_law_machine", glo "_law_same_journal",
  glo "Journal", glo "Machine", glo "BadJournal", glo "InvalidLetter", glo "InvalidMachine",
  free "int", free "len", free "list", free "max", free "range", free "str", free "tuple", He.Fa.str "DIGITS" "0123456789",
  cls "Journal", cls "Machine", noat "Journal" "machine", noat "Journal" "spacing", noat "Journal" "text", noat "Journal" "state", noat "Journal" "heard", noat "Journal" "letters",
  noat "Machine" "inputs", noat "Machine" "outputs", noat "Machine" "lead", noat "Machine" "opening", noat "Machine" "rows",
  meth "Journal" "hear", mkr "Journal", mkr "Machine", exc "BadJournal", exc "InvalidLetter", exc "InvalidMachine"]
abbrev R : PySem.W.OpenRow := PySem.W.OpenLaw.row PySem.Challenge.rw_promiseplay_k62_whole_recovery
def loose : List Str := ["SynthError", "InvalidLetter", "InvalidMachine", "BadJournal", "DIGITS", "Journal", "read_number", "read_letter", "recover", "all_below", "Machine", "emissions", "_law_draws", "_law_take", "_law_flat", "_law_machine", "_law_same_journal"]
abbrev hk : PySem.W.Hook := hookP 7 fa fn pr
def ob (s : PySem.W.SharedT) : AlP := obsPG 7 fa fn pr (HandSHeadRun.getT s)
theorem ob_eq (s : PySem.W.SharedT) : ob s = hk.obs s.abs := obsPG_eq (HandSHeadRun.getT_eq s)
theorem run (w : World) : HandSHeadRun.RunEq R (PySem.W.view R.prog [22]) hk ob 3000 loose w := by
  intro os
  kernel_rfl
end Pk

/-! ### words: k_memK: what stands in the heap; k_allIn: a two-place operation; k_upd: an expression's value; k_ownIn: a test's answer; k_places: arguments; k_offL: a slice's part -/
open Pp L2
local macro_rules | `(tactic| k_memK) => `(tactic| first | assumption | (with_reducible exact upd_same) | ((with_reducible refine keep_new (by assumption) ?_); k_memK) | ((with_reducible refine keep_ne (by first | assumption | (apply Ne.symm; assumption)) ?_); k_memK))
local macro_rules | `(tactic| k_allIn) => `(tactic| first
  | (with_reducible exact ra_I0) | ((with_reducible refine' ra_eq ?a); (case a => rfl)) | ((with_reducible refine' ra_ne ?a); (case a => rfl))
  | ((with_reducible refine' ra_I ?a); (case a => first | assumption | decide | exact ⟨by decide, by decide⟩ | exact Or.inr ⟨by decide, by decide⟩ | exact ⟨by decide, by decide, by decide⟩ | exact Or.inl ⟨by omega, by omega⟩ | omega | (constructor <;> first | decide | omega)))
  | ((with_reducible refine' ra_addS ?a); (case a => first | assumption | omega))
  | (with_reducible exact ra_inS) | (with_reducible exact ra_notInS) | (with_reducible exact ra_isN) | (with_reducible exact ra_notN)
  | ((with_reducible refine' ra_ixS ?a ?b); (case a => first | assumption | omega); (case b => assumption))
  | ((with_reducible refine' ra_ixL ?a ?b); (case a => first | assumption | exact SqL.of (by k_memK)); (case b => assumption)) | ((with_reducible refine' ra_ixT ?a ?b); (case a => first | assumption | exact SqT.of (by k_memK)); (case b => assumption)))
local macro_rules | `(tactic| k_offL) => `(tactic| first | (with_reducible exact vo_none) | ((with_reducible refine' vo_some ?a); (case a => k_upd)))
local macro_rules | `(tactic| k_places) => `(tactic| first | (with_reducible exact vl_nil) | ((with_reducible refine' vl_cons ?a ?b); (case a => k_upd); (case b => k_places)))
local macro_rules | `(tactic| k_upd) => `(tactic| first
  | (with_reducible exact va_c)
  | ((with_reducible refine' va_var ?a); (case a => first | rfl | assumption))
  | ((with_reducible refine' va_fld ?a ?b ?c ?d ?e); (case a => k_upd); (case b => k_memK); (case c => assumption); (case d => assumption); (case e => rfl))
  | ((with_reducible refine' va_op ?a ?b ?c); (case a => k_upd); (case b => k_upd); (case c => k_allIn))
  | ((with_reducible refine' va_neg ?a); (case a => k_upd))
  | ((with_reducible refine' va_lenQ ?a ?b); (case a => k_upd); (case b => first | assumption | exact Or.inl (by assumption) | exact Or.inr (by assumption) | exact Or.inl (SqL.of (by k_memK)) | exact Or.inr (SqT.of (by k_memK))))
  | ((with_reducible refine' va_lenK ?a ?b); (case a => k_upd); (case b => first | assumption | exact Or.inl (by assumption) | exact Or.inr (by assumption) | exact Or.inl (SqL.of (by k_memK)) | exact Or.inr (SqT.of (by k_memK))))
  | ((with_reducible refine' va_lenS ?a ?b); (case a => k_upd); (case b => first | assumption | omega))
  | ((with_reducible refine' va_strI ?a ?b); (case a => k_upd); (case b => first | assumption | omega))
  | ((with_reducible refine' va_intI ?a); (case a => k_upd))
  | ((with_reducible refine' va_intS ?a ?b ?c); (case a => k_upd); (case b => assumption); (case c => first | assumption | omega))
  | ((with_reducible refine' va_mx2 ?a ?b); (case a => k_upd); (case b => k_upd))
  | ((with_reducible refine' va_bm1 ?a ?b); (case a => k_upd); (case b => k_upd))
  | ((with_reducible refine' va_call ?a ?b); (case a => k_places); (case b => assumption))
  | ((with_reducible refine' va_chain ?a ?b ?c ?d ?e); (case a => k_upd); (case b => k_upd); (case c => k_upd); (case d => k_allIn); (case e => k_allIn))
  | ((with_reducible refine' va_slS ?a ?b ?c ?d); (case a => k_upd); (case b => k_offL); (case c => k_offL); (case d => first | assumption | omega))
  | ((with_reducible refine' va_andV ?a ?b); (case a => k_upd); (case b => intro _; k_upd))
  | ((with_reducible refine' va_orV ?a ?b); (case a => k_upd); (case b => intro _; k_upd))
  | ((with_reducible refine' va_notV ?a); (case a => k_upd)))
local macro_rules | `(tactic| k_ownIn) => `(tactic| first
  | ((with_reducible refine' an_test ?a); (case a => k_upd))
  | ((with_reducible refine' an_and ?a ?b); (case a => k_ownIn); (case b => intro _; k_ownIn))
  | ((with_reducible refine' an_or ?a ?b); (case a => k_ownIn); (case b => intro _; k_ownIn))
  | ((with_reducible refine' an_not ?a); (case a => k_ownIn))
  | ((with_reducible refine' an_B ?a); (case a => k_upd)))
namespace Pk
open PySem PySem.Spec PyProof.Rows L2 TL Pp
/-- what the top has written -/
structure T0 (K : PySem.W.Frag) (mg : Str → Option Value) (CJ CM CB CL CI : Addr) : Prop where
  n_int : mg "int" = none
  n_len : mg "len" = none
  n_list : mg "list" = none
  n_max : mg "max" = none
  n_range : mg "range" = none
  n_str : mg "str" = none
  n_tuple : mg "tuple" = none
  c_DIGITS : ∃ t, mg "DIGITS" = some (.str "0123456789" t)
  cJ : Cls K CJ
  cM : Cls K CM
  j1 : NoAttr K CJ "machine"
  j2 : NoAttr K CJ "spacing"
  j3 : NoAttr K CJ "text"
  j4 : NoAttr K CJ "state"
  j5 : NoAttr K CJ "heard"
  j6 : NoAttr K CJ "letters"
  m1 : NoAttr K CM "inputs"
  m2 : NoAttr K CM "outputs"
  m3 : NoAttr K CM "lead"
  m4 : NoAttr K CM "opening"
  m5 : NoAttr K CM "rows"
  x_BadJournal : XC K mg "BadJournal" CB
  x_InvalidLetter : XC K mg "InvalidLetter" CL
  x_InvalidMachine : XC K mg "InvalidMachine" CI
abbrev FnP (K : PySem.W.Frag) (x : Str) (st : Stmt) (f : Addr) (fd : FuncData) : Prop := FunD K x x (defArgs st) (defBody st) (defScope st) [] [] f fd
section
variable {P : Program} {w : World} {K : PySem.W.Frag} {mg : Str → Option Value} {base : Heap} {CJ CM CB CL CI : Addr}
/-! ### all_below -/
abbrev s_all_below : Stmt := topS 12
abbrev N_all_below : List Str := ["numbers", "limit", "number"]
theorem sc_all_below : FnScope N_all_below ["numbers", "limit"] (defScope s_all_below) := ⟨rfl, rfl, rfl, by decide +kernel, rfl, by decide +kernel, by decide +kernel⟩
def allBelow (ns : List Int) (lim : Int) : Bool := ns.all fun n => !(decide (n < 0) || decide (lim ≤ n))
def spAllBelow (K : PySem.W.Frag) : Sp := fun vs H Q _ => ∃ (a : Addr) (ns : List Int) (lim : Int), vs = [.ref a, .int lim] ∧ SqL K H a (ns.map V.int) ∧ Q (.bl (allBelow ns lim)) H
theorem map_at {α β : Type} {f : α → β} {l : List α} {i : Nat} {y : β} (h : (l.map f)[i]? = some y) : ∃ x, l[i]? = some x ∧ y = f x := by
  rw [List.getElem?_map] at h
  cases e : l[i]? with
  | none => rw [e] at h; cases h
  | some x => rw [e] at h; exact ⟨x, rfl, (Option.some.inj h).symm⟩
theorem take_more {α : Type} {l : List α} {i : Nat} {x : α} (h : l[i]? = some x) : l.take (i + 1) = l.take i ++ [x] := by
  rw [List.take_add_one, h]
  rfl
theorem ok_all_below {f : Addr} {fd : FuncData} (F : FnP K "all_below" s_all_below f fd) : FnOk P w K mg base CX0 1 f fd ["numbers", "limit"] (spAllBelow K) := by
  refine F.ok sc_all_below (fun vs H Q E h => ?_) (fun cdv A outer s H vs Q E hr h => ?_)
  · obtain ⟨a, ns, lim, rfl, _⟩ := h
    rfl
  · obtain ⟨a, ns, lim, rfl, hS, q⟩ := h
    refine ⟨_, (pss_cons (ps_for PassesOwn.leaving rfl (pi_listK (K := K) rfl (pv 0)) (pg_name (i := 2) sc_all_below.nd rfl (Or.inl rfl))
  (pss_one (ps_if (PW.pt (pw_or (pt_cmpR op_lt (pv 2) pe_int (nomark _)) (pw_or1 (pt_cmpR op_ge (pv 2) (pv 1) (nomark _)))))
    (pss_one (ps_ret pe_bl))
    pss_nil)))
(pss_one (ps_ret pe_bl))), ?_⟩
    refine zs_forL (xs := ns.map V.int) (by k_upd) hS (fun i σ H' => (∃ y, σ = [some (.ref a), some (.int lim), y]) ∧ H' = H ∧ allBelow (ns.take i) lim = true) ⟨⟨_, rfl⟩, rfl, rfl⟩ ?_ ?_ ?_
    · rintro i σ' H' _ ⟨_, rfl, _⟩
      exact hS
    · rintro i x σ' H' hx ⟨⟨y, rfl⟩, rfl, hb⟩
      obtain ⟨n, hn, rfl⟩ := map_at hx
      refine z_when (by k_ownIn) (fun e => ?_) (fun e => ?_)
      · refine z_ret (by k_upd) ?_
        have e2 : allBelow ns lim = false := by
          refine List.all_eq_false.mpr ⟨n, List.mem_of_getElem? hn, ?_⟩
          rw [e]
          decide
        rw [e2] at q
        exact q
      · refine ⟨⟨_, rfl⟩, rfl, ?_⟩
        unfold allBelow at hb ⊢
        rw [take_more hn, List.all_append, hb, List.all_cons, e] <;> rfl
    · rintro σ' H' ⟨⟨y, rfl⟩, rfl, hb⟩
      refine z_ret (by k_upd) ?_
      rw [List.length_map, List.take_length] at hb
      rw [hb] at q
      exact q
/-! ### _law_take -/
abbrev s_law_take : Stmt := topS 18
abbrev N_law_take : List Str := ["draws", "limit"]
theorem sc_law_take : FnScope N_law_take ["draws", "limit"] (defScope s_law_take) := ⟨rfl, rfl, rfl, by decide +kernel, rfl, by decide +kernel, by decide +kernel⟩
def spTakeL : Sp := fun vs H Q _ => ∃ (d : Addr) (ns : List Int) (lim : Int), vs = [.ref d, .int lim] ∧ H d = some (.lst (ns.map V.int)) ∧ 0 < lim ∧ ∀ (r : Int) (ns' : List Int), 0 ≤ r → r < lim → Q (.int r) (upd H d (.lst (ns'.map V.int)))
def spTake : Sp := fun vs H Q _ => ∃ (d : Addr) (lim : Int), vs = [.ref d, .int lim] ∧ H d = some (DR d) ∧ 0 < lim ∧ ∀ r : Int, 0 ≤ r → r < lim → Q (.int r) H
theorem ok_takeL {f : Addr} {fd : FuncData} (F : FnP K "_law_take" s_law_take f fd) (T : T0 K mg CJ CM CB CL CI) : FnOk P w K mg base CX0 1 f fd ["draws", "limit"] spTakeL := by
  refine F.ok sc_law_take (fun vs H Q E h => ?_) (fun cdv A outer s H vs Q E hr h => ?_)
  · obtain ⟨a, ns, lim, rfl, _⟩ := h
    rfl
  · obtain ⟨d, ns, lim, rfl, hd, hl, q⟩ := h
    refine ⟨_, (pss_cons (ps_if (pt_cmpR op_eq (pe_callB (call_lenK (K := K) rfl) (by rfl) T.n_len PySem.boot_len (pa_cons (pv 0) pa_nil)) pe_int (nomark _))
  (pss_one (ps_ret pe_int))
  pss_nil)
(pss_one (ps_ret (pe_op op_modN (pe_callTy call_int1 (by rfl) T.n_int (by decide +kernel) (pa_cons (pe_bm0 PySem.F.plainAttrs_list PySem.F.slot_list_pop PySem.F.type_list_pop mt_pop (pv 0)) pa_nil)) (pv 1))))), ?_⟩
    refine zs_when (by k_ownIn) (fun e => ?_) (fun e => ?_)
    · refine z_ret (by k_upd) ?_
      have := q 0 ns (Int.le_refl 0) hl
      rw [show upd H d (.lst (ns.map V.int)) = H from by funext b; by_cases hb : b = d; (subst hb; rw [upd_same, hd]); rw [upd_ne hb]] at this
      exact this
    · have hne : ns ≠ [] := fun z => by
        subst z
        exact absurd e (by decide)
      obtain ⟨r, y, rfl⟩ : ∃ r y, ns = r ++ [y] := ⟨ns.dropLast, ns.getLast hne, (List.dropLast_concat_getLast hne).symm⟩
      have e1 : ((r ++ [y]).map V.int)[((r ++ [y]).map V.int).length - 1]? = some (.int y) := by simp
      have e2 : ((r ++ [y]).map V.int).dropLast = r.map V.int := by simp
      refine ⟨.ref d, rfl, .inl ⟨rfl, _, SqL.of hd⟩, d, _, .int y, rfl, rfl, hd, e1, .inl ⟨y, rfl, .int lim, rfl, y, lim, rfl, rfl, by omega, ?_⟩⟩
      rw [e2]
      exact q _ r (Int.fmod_nonneg_of_pos y hl) (Int.fmod_lt_of_pos y hl)
theorem ok_take {f : Addr} {fd : FuncData} (F : FnP K "_law_take" s_law_take f fd) (T : T0 K mg CJ CM CB CL CI) : FnOk P w K mg base CX0 1 f fd ["draws", "limit"] spTake := by
  refine Pp.FnOk.draw (ok_takeL F T) (fun vs H Q E h => ?_) fun vs H Q E h => ?_
  · obtain ⟨a, lim, rfl, _⟩ := h
    rfl
  · obtain ⟨d, lim, rfl, hd, hl, q⟩ := h
    refine ⟨d, hd, fun ns => ⟨d, ns, lim, rfl, upd_same, hl, fun r ns' h0 h1 => ⟨ns', upd_same, ?_⟩⟩⟩
    rw [upd_upd, upd_upd, upd_self' hd]
    exact q r h0 h1
/-! ### read_number -/
abbrev s_read_number : Stmt := topS 8
abbrev N_read_number : List Str := ["word", "char"]
theorem sc_read_number : FnScope N_read_number ["word"] (defScope s_read_number) := ⟨rfl, rfl, rfl, by decide +kernel, rfl, by decide +kernel, by decide +kernel⟩
def isDig (c : Nat) : Bool := decide (48 ≤ c) && decide (c ≤ 57)
/-- the number that a word of digits writes -/
def rdNum (l : List Nat) : Option Nat := if (decide (l = []) || (decide (l.head? = some 48) && decide (1 < l.length))) = true then none else if l.all isDig = true then some (PySem.NumText.digitsVal l) else none
theorem dig_in (c : Nat) : decide (c ∈ (("0123456789" : Str)).cps.toList) = isDig c := by
  have e : (("0123456789" : Str)).cps.toList = [48, 49, 50, 51, 52, 53, 54, 55, 56, 57] := by rfl
  rw [e]
  unfold isDig
  by_cases h : 48 ≤ c ∧ c ≤ 57
  · have : c = 48 ∨ c = 49 ∨ c = 50 ∨ c = 51 ∨ c = 52 ∨ c = 53 ∨ c = 54 ∨ c = 55 ∨ c = 56 ∨ c = 57 := by omega
    rcases this with h | h | h | h | h | h | h | h | h | h <;> (subst h; rfl)
  · have h1 : ¬ c ∈ [48, 49, 50, 51, 52, 53, 54, 55, 56, 57] := by
      simp only [List.mem_cons, List.not_mem_nil, or_false]
      omega
    rw [decide_eq_false h1]
    symm
    rw [Bool.and_eq_false_iff, decide_eq_false_iff_not, decide_eq_false_iff_not]
    omega
def spNum (CB : Addr) : Sp := fun vs H Q E => ∃ z : Str, vs = [.str z] ∧ (tl z).length ≤ 640 ∧ (∀ n, rdNum (tl z) = some n → Q (.int (n : Nat)) H) ∧ (rdNum (tl z) = none → E (.ref CB) none H)
theorem ok_num {f : Addr} {fd : FuncData} (F : FnP K "read_number" s_read_number f fd) (T : T0 K mg CJ CM CB CL CI) : FnOk P w K mg base (L2.CX P w) 1 f fd ["word"] (spNum CB) := by
  refine F.ok sc_read_number (fun vs H Q E h => ?_) (fun cdv A outer s H vs Q E hr h => ?_)
  · obtain ⟨z, rfl, _⟩ := h
    rfl
  · obtain ⟨z, rfl, hz, q1, q2⟩ := h
    refine ⟨_, (pss_cons (ps_if (PW.pt (pw_or (pt_cmpR op_eq (pv 0) pe_str (nomark _)) (pw_or1 (PW.pt (pw_and (pt_cmpR op_eq (pe_ix ix_str (pv 0) pe_int (fun _ _ => rfl)) pe_str (nomark _)) (pw_and1 (pt_cmpR op_gt (pe_callB call_len_str (by rfl) T.n_len PySem.boot_len (pa_cons (pv 0) pa_nil)) pe_int (nomark _))))))))
  (pss_one (ps_raise rfl (takes_of rfl rfl rfl rfl) (pmk_x T.x_BadJournal rfl)))
  pss_nil)
(pss_cons (ps_for PassesOwn.leaving rfl (pi_str (pv 0)) (pg_name (i := 1) sc_read_number.nd rfl (Or.inl rfl))
  (pss_one (ps_if (pt_cmpR op_notIn_sign (pv 1) (pe_gs T.c_DIGITS rfl) rfl)
    (pss_one (ps_raise rfl (takes_of rfl rfl rfl rfl) (pmk_x T.x_BadJournal rfl)))
    pss_nil)))
(pss_one (ps_ret (pe_callTy call_int_str (by rfl) T.n_int (by decide +kernel) (pa_cons (pv 0) pa_nil)))))), ?_⟩
    have hlen : z.length ≤ sizeLine := by
      rw [len_tl]
      exact small _ (by omega)
    cases hl : tl z with
    | nil =>
      have ez : z = ("" : Str) := ext_tl (hl.trans rfl)
      have e2 : rdNum (tl z) = none := by
        rw [hl]
        rfl
      refine zs_when (b := true) (Ans.to (an_or (b := true) (by k_ownIn) (fun e => absurd e (by rw [ez]; decide))) (by rw [ez]; decide)) (fun _ => ?_) (fun e => nomatch e)
      exact q2 e2
    | cons c r =>
      have nz : ¬ (V.str z = V.str ("" : Str)) := fun e => by
        have e1 : z = ("" : Str) := V.str.inj e
        rw [e1] at hl
        cases hl
      have h0 : atI (tl z) 0 = some c := by
        rw [hl]
        exact atI_nat (j := 0) rfl
      have hlc : z.length = r.length + 1 := by
        rw [len_tl, hl]
        rfl
      refine zs_when (by k_ownIn) (fun e => ?_) (fun e => ?_)
      · have e2 : rdNum (tl z) = none := by
          unfold rdNum
          rw [if_pos]
          rw [decide_eq_false nz, Bool.false_or, Bool.and_eq_true, decide_eq_true_eq, decide_eq_true_eq] at e
          have ec : c = 48 := by
            have e3 := congrArg tl (V.str.inj e.1)
            exact (List.cons.inj (show [c] = [48] from e3)).1
          rw [hl, ec]
          have := e.2
          simp only [List.head?_cons, List.length_cons, decide_true, Bool.true_and, Bool.or_eq_true, decide_eq_true_eq]
          right
          omega
        exact q2 e2
      · have hn : (decide (tl z = []) || (decide ((tl z).head? = some 48) && decide (1 < (tl z).length))) = false := by
          rw [decide_eq_false nz, Bool.false_or, Bool.and_eq_false_iff, decide_eq_false_iff_not, decide_eq_false_iff_not] at e
          rw [hl]
          simp only [Bool.or_eq_false_iff, Bool.and_eq_false_iff, decide_eq_false_iff_not, List.head?_cons, List.length_cons, Option.some.injEq]
          refine ⟨(fun z => nomatch z), ?_⟩
          rcases e with e | e
          · left
            intro ec
            subst ec
            exact e rfl
          · right
            omega
        refine zs_forS (x := z) (by k_upd) (fun i σ H' => (∃ y, σ = [some (.str z), y]) ∧ H' = H ∧ ((tl z).take i).all isDig = true) ⟨⟨_, rfl⟩, rfl, rfl⟩ ?_ ?_
        · rintro i x σ' H' hx ⟨⟨y, rfl⟩, rfl, hb⟩
          have ed : decide (x ∈ (("0123456789" : Str)).cps.toList) = isDig x := dig_in x
          refine z_when (by k_ownIn) (fun e1 => ?_) (fun e1 => ?_)
          · rw [ed] at e1
            have e2 : rdNum (tl z) = none := by
              unfold rdNum
              rw [hn, if_neg Bool.false_ne_true, if_neg]
              intro hall
              rw [List.all_eq_true.mp hall x (List.mem_of_getElem? hx)] at e1
              exact nomatch e1
            exact q2 e2
          · rw [ed] at e1
            refine ⟨⟨_, rfl⟩, rfl, ?_⟩
            rw [take_more hx, List.all_append, hb, List.all_cons]
            have e3 : isDig x = true := by
              cases h : isDig x
              · rw [h] at e1
                exact nomatch e1
              · rfl
            rw [e3] <;> rfl
        · rintro σ' H' ⟨⟨y, rfl⟩, rfl, hb⟩
          rw [List.take_length] at hb
          have ad : NumText.AllDigits z.cps.toList := fun d hd => by
            have := List.all_eq_true.mp hb d hd
            unfold isDig at this
            rw [Bool.and_eq_true, decide_eq_true_eq, decide_eq_true_eq] at this
            exact this
          have hi := intText_digits (x := z) ad (by show tl z ≠ []; rw [hl]; exact List.cons_ne_nil _ _) (by rw [len_tl]; omega)
          have h64 : z.length ≤ 640 := by rw [len_tl]; omega
          refine z_ret (va_intS (by k_upd) hi h64) ?_
          refine q1 _ ?_
          unfold rdNum
          rw [hn, if_neg Bool.false_ne_true, if_pos hb]
end
end Pk

namespace Pk
open PySem PySem.Spec PyProof.Rows L2 TL Pp
/-! ### machines and journals, as data and in the heap -/
structure Mac where
  inp : Int
  out : Int
  lead : Int
  op : List Int
  rows : List (List (Int × Int))
structure MOk (M : Mac) : Prop where
  i1 : 1 ≤ M.inp
  i2 : M.inp ≤ 1000
  o1 : 1 ≤ M.out
  l1 : -3 ≤ M.lead
  l2 : M.lead ≤ 2
  ol : (M.op.length : Int) = if -M.lead > 0 then -M.lead else 0
  r1 : 1 ≤ M.rows.length
  r2 : M.rows.length ≤ 1000
  rl : ∀ (i : Nat) row, M.rows[i]? = some row → (row.length : Int) = M.inp
  rp : ∀ (i k : Nat) row p, M.rows[i]? = some row → row[k]? = some p → 0 ≤ p.1 ∧ p.1 < M.rows.length ∧ 0 ≤ p.2 ∧ p.2 < M.out
def nxt (M : Mac) (s l : Int) : Int × Int := (((M.rows[s.toNat]?).getD [])[l.toNat]?).getD (0, 0)
structure Jn where
  sp : Int
  text : Str
  state : Int
  heard : Int
  said : List Int
abbrev sI (i : Int) : Str := Str.ofString (toString i)
def jNew (M : Mac) (sp : Int) : Jn := ⟨sp, ("journal " : Str) ++ sI sp ++ ("\n" : Str), 0, 0, M.op⟩
def hear (M : Mac) (J : Jn) (l : Int) : Jn :=
  ⟨J.sp, if (J.heard + 1).fmod J.sp = 0 then J.text ++ (("heard " : Str) ++ sI l ++ ("\n" : Str)) ++ (("state " : Str) ++ sI (J.heard + 1) ++ (" " : Str) ++ sI (nxt M J.state l).1 ++ ("\n" : Str)) else J.text ++ (("heard " : Str) ++ sI l ++ ("\n" : Str)),
    (nxt M J.state l).1, J.heard + 1, if J.heard + 1 ≤ M.lead then J.said else J.said ++ [(nxt M J.state l).2]⟩
def says (M : Mac) (J : Jn) (l : Int) : List Int := if J.heard + 1 ≤ M.lead then [] else [(nxt M J.state l).2]
structure JOk (M : Mac) (J : Jn) : Prop where
  s1 : 1 ≤ J.sp
  h0 : 0 ≤ J.heard
  t0 : (J.text.length : Int) ≤ 600 + 30 * J.heard
  z0 : 0 ≤ J.state
  z1 : J.state < M.rows.length
  a0 : (J.said.length : Int) ≤ 10 + J.heard
def IsRow (H : Hp) (b : Addr) (row : List (Int × Int)) : Prop := ∃ ps : List Addr, H b = some (.tup (ps.map V.ref)) ∧ ps.length = row.length ∧ ∀ (i : Nat) p q, ps[i]? = some p → row[i]? = some q → H p = some (.tup [.int q.1, .int q.2])
def mF (M : Mac) (po pr : Addr) : List (Str × V) := [("inputs", .int M.inp), ("outputs", .int M.out), ("lead", .int M.lead), ("opening", .ref po), ("rows", .ref pr)]
def IsMac (CM : Addr) (H : Hp) (m : Addr) (M : Mac) : Prop := ∃ (dx po pr : Addr) (rs : List Addr), H m = some (.ins CM dx (mF M po pr)) ∧ H po = some (.tup (M.op.map V.int)) ∧ H pr = some (.tup (rs.map V.ref)) ∧ rs.length = M.rows.length ∧
  ∀ (i : Nat) b row, rs[i]? = some b → M.rows[i]? = some row → IsRow H b row
def jF (J : Jn) (m po : Addr) : List (Str × V) := [("machine", .ref m), ("spacing", .int J.sp), ("text", .str J.text), ("state", .int J.state), ("heard", .int J.heard), ("letters", .ref po)]
def IsJ (CJ : Addr) (H : Hp) (j m : Addr) (J : Jn) : Prop := ∃ (dx po : Addr), H j = some (.ins CJ dx (jF J m po)) ∧ H po = some (.tup (J.said.map V.int))
theorem IsRow.fr {H H' : Hp} {j b : Addr} {row : List (Int × Int)} {C dx : Addr} {fs : List (Str × V)} (h : IsRow H b row) (hj : H j = some (.ins C dx fs)) (f : Fr j H H') : IsRow H' b row := by
  obtain ⟨ps, h1, h2, h3⟩ := h
  exact ⟨ps, f _ _ h1 (ne_of h1 hj fun z => nomatch z), h2, fun i p q a b => f _ _ (h3 i p q a b) (ne_of (h3 i p q a b) hj fun z => nomatch z)⟩
theorem IsMac.fr {CM : Addr} {H H' : Hp} {j m : Addr} {M : Mac} {C dx : Addr} {fs : List (Str × V)} (h : IsMac CM H m M) (hj : H j = some (.ins C dx fs)) (n : m ≠ j) (f : Fr j H H') : IsMac CM H' m M := by
  obtain ⟨dm, po, pr, rs, h1, h2, h3, h4, h5⟩ := h
  exact ⟨dm, po, pr, rs, f _ _ h1 n, f _ _ h2 (ne_of h2 hj fun z => nomatch z), f _ _ h3 (ne_of h3 hj fun z => nomatch z), h4, fun i b row a c => (h5 i b row a c).fr hj f⟩
theorem IsJ.fr {CJ : Addr} {H H' : Hp} {j k m : Addr} {J : Jn} {C dx : Addr} {fs : List (Str × V)} (h : IsJ CJ H k m J) (hj : H j = some (.ins C dx fs)) (n : k ≠ j) (f : Fr j H H') : IsJ CJ H' k m J := by
  obtain ⟨dm, po, h1, h2⟩ := h
  exact ⟨dm, po, f _ _ h1 n, f _ _ h2 (ne_of h2 hj fun z => nomatch z)⟩
theorem IsRow.same {H H' : Hp} {b : Addr} {row : List (Int × Int)} (h : IsRow H b row) (f : Same H H') : IsRow H' b row := by
  obtain ⟨ps, h1, h2, h3⟩ := h
  exact ⟨ps, f _ _ h1, h2, fun i p q a b => f _ _ (h3 i p q a b)⟩
theorem IsMac.same {CM : Addr} {H H' : Hp} {m : Addr} {M : Mac} (h : IsMac CM H m M) (f : Same H H') : IsMac CM H' m M := by
  obtain ⟨dm, po, pr, rs, h1, h2, h3, h4, h5⟩ := h
  exact ⟨dm, po, pr, rs, f _ _ h1, f _ _ h2, f _ _ h3, h4, fun i b row a c => (h5 i b row a c).same f⟩
theorem IsJ.same {CJ : Addr} {H H' : Hp} {k m : Addr} {J : Jn} (h : IsJ CJ H k m J) (f : Same H H') : IsJ CJ H' k m J := by
  obtain ⟨dm, po, h1, h2⟩ := h
  exact ⟨dm, po, f _ _ h1, f _ _ h2⟩
theorem atI_pos {α : Type} {xs : List α} {i : Int} {v : α} (h0 : 0 ≤ i) (h : xs[i.toNat]? = some v) : atI xs i = some v := by
  have e : ((i.toNat : Nat) : Int) = i := by omega
  rw [← e]
  exact atI_nat h
theorem sI_len {i : Int} (h0 : 0 ≤ i) (h1 : i < 10000) : (sI i).length ≤ 4 := by
  obtain ⟨n, rfl⟩ : ∃ n : Nat, i = (n : Int) := ⟨i.toNat, by omega⟩
  rw [len_tl, tl_num]
  exact numL_len (by decide) (by omega)
theorem log_small {i : Int} (h0 : 0 ≤ i) (h1 : i < 10 ^ 15) : i.natAbs.log2 < 1920 := by
  have : i.natAbs < 2 ^ 1920 := Nat.lt_of_lt_of_le (show i.natAbs < 2 ^ 60 by omega) (Nat.pow_le_pow_right (by decide) (by decide))
  by_cases h : i.natAbs = 0
  · rw [h]; decide
  · exact (Nat.log2_lt h).mpr this
theorem nxt_at {M : Mac} {J : Jn} {l : Int} (m : MOk M) (o : JOk M J) (l0 : 0 ≤ l) (l1 : l < M.inp) : ∃ row, M.rows[J.state.toNat]? = some row ∧ row[l.toNat]? = some (nxt M J.state l) := by
  have z0 := o.z0
  have z1 := o.z1
  have h1 : J.state.toNat < M.rows.length := by omega
  refine ⟨M.rows[J.state.toNat], List.getElem?_eq_getElem h1, ?_⟩
  have h2 := m.rl _ _ (List.getElem?_eq_getElem h1)
  have h3 : l.toNat < (M.rows[J.state.toNat]).length := by omega
  unfold nxt
  rw [List.getElem?_eq_getElem h1]
  show (M.rows[J.state.toNat])[l.toNat]? = some (((M.rows[J.state.toNat])[l.toNat]?).getD (0, 0))
  rw [List.getElem?_eq_getElem h3]
  rfl
theorem hear_ok {M : Mac} {J : Jn} {l : Int} (m : MOk M) (o : JOk M J) (l0 : 0 ≤ l) (l1 : l < M.inp) (hh : J.heard < 1000) : JOk M (hear M J l) := by
  obtain ⟨row, e1, e2⟩ := nxt_at m o l0 l1
  have r := m.rp _ _ _ _ e1 e2
  have s1 := o.s1
  have h0 := o.h0
  have t0 := o.t0
  have a0 := o.a0
  have i2 := m.i2
  have r2 := m.r2
  have k1 := sI_len l0 (by omega)
  have k2 : (sI (J.heard + 1)).length ≤ 4 := sI_len (by omega) (by omega)
  have k3 : (sI (nxt M J.state l).1).length ≤ 4 := sI_len r.1 (by omega)
  refine ⟨s1, by show 0 ≤ J.heard + 1; omega, ?_, r.1, r.2.1, ?_⟩
  · show ((if (J.heard + 1).fmod J.sp = 0 then J.text ++ (("heard " : Str) ++ sI l ++ ("\n" : Str)) ++ (("state " : Str) ++ sI (J.heard + 1) ++ (" " : Str) ++ sI (nxt M J.state l).1 ++ ("\n" : Str)) else J.text ++ (("heard " : Str) ++ sI l ++ ("\n" : Str)) : Str).length : Int) ≤ 600 + 30 * (J.heard + 1)
    by_cases h : (J.heard + 1).fmod J.sp = 0
    · rw [if_pos h, str_len, str_len, str_len, str_len, str_len, str_len, str_len, str_len]
      show ((_ + (6 + _ + 1) + (6 + _ + 1 + _ + 1) : Nat) : Int) ≤ _
      omega
    · rw [if_neg h, str_len, str_len, str_len]
      show ((_ + (6 + _ + 1) : Nat) : Int) ≤ _
      omega
  · show ((if J.heard + 1 ≤ M.lead then J.said else J.said ++ [(nxt M J.state l).2] : List Int).length : Int) ≤ 10 + (J.heard + 1)
    by_cases h : J.heard + 1 ≤ M.lead
    · rw [if_pos h]
      omega
    · rw [if_neg h, List.length_append]
      show ((_ + 1 : Nat) : Int) ≤ _
      omega
section
variable {P : Program} {w : World} {K : PySem.W.Frag} {mg : Str → Option Value} {base : Heap} {CJ CM CB CL CI : Addr}
abbrev s_Journal_said : Stmt := inClass (topS 7) 1
abbrev N_Journal_said : List Str := ["self"]
theorem sc_Journal_said : FnScope N_Journal_said ["self"] (defScope s_Journal_said) := ⟨rfl, rfl, rfl, by decide +kernel, rfl, by decide +kernel, by decide +kernel⟩
def spSaid (CJ : Addr) : Sp := fun vs H Q _ => ∃ (j m dx po : Addr) (J : Jn), vs = [.ref j] ∧ H j = some (.ins CJ dx (jF J m po)) ∧ Q (.ref po) H
theorem ok_said {f : Addr} {fd : FuncData} (F : FunD K "said" "Journal.said" (defArgs s_Journal_said) (defBody s_Journal_said) (defScope s_Journal_said) [] [] f fd) (T : T0 K mg CJ CM CB CL CI) : FnOk P w K mg base CX0 1 f fd ["self"] (spSaid CJ) := by
  refine F.ok sc_Journal_said (fun vs H Q E h => ?_) (fun cdv A outer s H vs Q E hr h => ?_)
  · obtain ⟨j, m, dx, po, J, rfl, _⟩ := h
    rfl
  · obtain ⟨j, m, dx, po, J, rfl, hj, q⟩ := h
    refine ⟨_, (pss_one (ps_ret (pe_fldK (K := K) rfl (pv 0) rfl))), ?_⟩
    obtain ⟨_, _, _, _, _, _, _, _, _, _, _, _, _, _, _, _, _, _, _, _, _, _, _, _⟩ := T
    refine z_ret (by k_upd) q
abbrev s_Journal_hear : Stmt := inClass (topS 7) 2
abbrev N_Journal_hear : List Str := ["self", "letter", "emitted"]
theorem sc_Journal_hear : FnScope N_Journal_hear ["self", "letter"] (defScope s_Journal_hear) := ⟨rfl, rfl, rfl, by decide +kernel, rfl, by decide +kernel, by decide +kernel⟩
def spHear (CJ CM CL : Addr) : Sp := fun vs H Q E => ∃ (j m : Addr) (l : Int) (J : Jn) (M : Mac), vs = [.ref j, .int l] ∧ IsJ CJ H j m J ∧ IsMac CM H m M ∧ m ≠ j ∧ MOk M ∧ JOk M J ∧ J.heard < 1000 ∧
  ((l < 0 ∨ M.inp ≤ l) → E (.ref CL) none H) ∧ (0 ≤ l → l < M.inp → ∀ (H' : Hp) (p : Addr), Fr j H H' → IsJ CJ H' j m (hear M J l) → H p = none → H' p = some (.lst ((says M J l).map V.int)) → Q (.ref p) H')
theorem ok_hear {f : Addr} {fd : FuncData} (F : FunD K "hear" "Journal.hear" (defArgs s_Journal_hear) (defBody s_Journal_hear) (defScope s_Journal_hear) [] [] f fd) (T : T0 K mg CJ CM CB CL CI) : FnOk P w K mg base (L2.CX P w) 1 f fd ["self", "letter"] (spHear CJ CM CL) := by
  refine F.ok sc_Journal_hear (fun vs H Q E h => ?_) (fun cdv A outer s H vs Q E hr h => ?_)
  · obtain ⟨j, m, l, J, M, rfl, _⟩ := h
    rfl
  · obtain ⟨j, m, l, J, M, rfl, ⟨dx, po, hj, hpo⟩, ⟨dm, pmo, pmr, rs, hm, hmo, hmr, hrl, hrr⟩, nmj, mk, jk, hh, q1, q2⟩ := h
    refine ⟨_, (pss_cons (ps_if (PW.pt (pw_or (pt_cmpR op_lt (pv 1) pe_int (nomark _)) (pw_or1 (pt_cmpR op_ge (pv 1) (pe_fldK (K := K) rfl (pe_fldK (K := K) rfl (pv 0) rfl) rfl) (nomark _)))))
  (pss_one (ps_raise rfl (takes_of rfl rfl rfl rfl) (pmk_x T.x_InvalidLetter rfl)))
  pss_nil)
(pss_cons (ps_asg (pe_ix (ix_tupK (K := K) rfl) (pe_ix (ix_tupK (K := K) rfl) (pe_fldK (K := K) rfl (pe_fldK (K := K) rfl (pv 0) rfl) rfl) (pe_fldK (K := K) rfl (pv 0) rfl) (fun _ _ => rfl)) (pv 1) (fun _ _ => rfl)) (pg_tupK (K := K) rfl rfl (pgs_cons (pg_fld (pv 0)) (pgs_cons (pg_name (i := 2) sc_Journal_hear.nd rfl (Or.inl rfl)) pgs_nil))))
(pss_cons (ps_fldaug (pv 0) pe_int in_add)
(pss_cons (ps_fldaug (pv 0) (pe_op op_add_str (pe_op op_add_str pe_str (pe_callTy call_str_int (by rfl) T.n_str (by decide +kernel) (pa_cons (pv 1) pa_nil))) pe_str) in_addS)
(pss_cons (ps_if (pt_cmpR op_eq (pe_op op_modN (pe_fldK (K := K) rfl (pv 0) rfl) (pe_fldK (K := K) rfl (pv 0) rfl)) pe_int (nomark _))
  (pss_one (ps_fldaug (pv 0) (pe_op op_add_str (pe_op op_add_str (pe_op op_add_str (pe_op op_add_str pe_str (pe_callTy call_str_int (by rfl) T.n_str (by decide +kernel) (pa_cons (pe_fldK (K := K) rfl (pv 0) rfl) pa_nil))) pe_str) (pe_callTy call_str_int (by rfl) T.n_str (by decide +kernel) (pa_cons (pe_fldK (K := K) rfl (pv 0) rfl) pa_nil))) pe_str) in_addS))
  pss_nil)
(pss_cons (ps_if (pt_cmpR op_le (pe_fldK (K := K) rfl (pv 0) rfl) (pe_fldK (K := K) rfl (pe_fldK (K := K) rfl (pv 0) rfl) rfl) (nomark _))
  (pss_one (ps_ret (pe_lst pa_nil)))
  pss_nil)
(pss_cons (ps_fld (pv 0) (pe_op (op_catAK (K := K) rfl) (pe_fldK (K := K) rfl (pv 0) rfl) (pe_tup (pa_cons (pv 2) pa_nil))) rfl)
(pss_one (ps_ret (pe_lst (pa_cons (pv 2) pa_nil))))))))))), ?_⟩
    obtain ⟨_, _, _, _, _, _, _, _, _, _, _, _, _, _, _, _, _, _, _, _, _, _, _, _⟩ := T
    refine zs_when (by k_ownIn) (fun e => ?_) (fun e => ?_)
    · refine q1 ?_
      rw [Bool.or_eq_true, decide_eq_true_eq, decide_eq_true_eq] at e
      exact e
    · rw [Bool.or_eq_false_iff, decide_eq_false_iff_not, decide_eq_false_iff_not] at e
      have l0 : 0 ≤ l := by omega
      have l1 : l < M.inp := by omega
      obtain ⟨row, e1, e2⟩ := nxt_at mk jk l0 l1
      have hs1 : J.state.toNat < rs.length := by
        have := jk.z0; have := jk.z1; omega
      obtain ⟨ps, r1, r2, r3⟩ := hrr _ _ row (List.getElem?_eq_getElem hs1) e1
      have hl1 : l.toNat < ps.length := by
        have := (List.getElem?_eq_some_iff.mp e2).1
        omega
      have r4 := r3 _ _ _ (List.getElem?_eq_getElem hl1) e2
      have a1 : atI (rs.map V.ref) J.state = some (.ref rs[J.state.toNat]) := atI_pos jk.z0 (by rw [List.getElem?_map, List.getElem?_eq_getElem hs1] <;> rfl)
      have a2 : atI (ps.map V.ref) l = some (.ref ps[l.toNat]) := atI_pos l0 (by rw [List.getElem?_map, List.getElem?_eq_getElem hl1] <;> rfl)
      generalize hb : rs[J.state.toNat] = b at *
      generalize hp : ps[l.toNat] = pp at *
      generalize hx : nxt M J.state l = np at *
      refine zs_asg (v := .ref pp) (by k_upd) ?_
      refine ⟨pp, _, rfl, SqT.of r4, rfl, _, _, rfl, ?_⟩
      refine ⟨.ref j, rfl, j, CJ, dx, _, rfl, hj, by assumption, by assumption, (by show 6 < 1000; decide), ?_⟩
      refine ⟨.int np.2, [], rfl, rfl, ?_⟩
      have nmoj : pmo ≠ j := ne_of hmo hj fun z => nomatch z
      have nmrj : pmr ≠ j := ne_of hmr hj fun z => nomatch z
      have npoj : po ≠ j := ne_of hpo hj fun z => nomatch z
      rw [show putF "state" (.int np.1) (jF J m po) = jF ⟨J.sp, J.text, np.1, J.heard, J.said⟩ m po from rfl]
      refine zs_fldaug (x := .int J.heard) (z := .int (J.heard + 1)) (by k_upd) upd_same (by assumption) (by assumption) rfl (by k_upd) (fun _ q => ⟨_, _, rfl, rfl, q⟩) (by show 6 < 1000; decide) ?_
      rw [upd_upd, show putF "heard" (.int (J.heard + 1)) (jF ⟨J.sp, J.text, np.1, J.heard, J.said⟩ m po) = jF ⟨J.sp, J.text, np.1, J.heard + 1, J.said⟩ m po from rfl]
      have hlog : l.natAbs.log2 < 1920 := log_small l0 (by have := mk.i2; omega)
      have hlen := sI_len l0 (by have := mk.i2; omega)
      have htx := jk.t0
      have c1 : (("heard " : Str)).length + (sI l).length ≤ sizeLine := small _ (by show 6 + _ ≤ _; omega)
      have c2 : (("heard " : Str) ++ sI l).length + (("\n" : Str)).length ≤ sizeLine := small _ (by rw [str_len]; show 6 + _ + 1 ≤ _; omega)
      have c3 : J.text.length + (("heard " : Str) ++ sI l ++ ("\n" : Str)).length ≤ sizeLine := small _ (by rw [str_len, str_len]; show _ + (6 + _ + 1) ≤ _; have := jk.h0; omega)
      refine zs_fldaug (x := .str J.text) (z := .str (J.text ++ (("heard " : Str) ++ sI l ++ ("\n" : Str)))) (by k_upd) upd_same (by assumption) (by assumption) rfl (by k_upd) (fun _ q => ⟨_, _, rfl, rfl, c3, q⟩) (by show 6 < 1000; decide) ?_
      generalize ht1 : J.text ++ (("heard " : Str) ++ sI l ++ ("\n" : Str)) = t1
      rw [upd_upd, show putF "text" (.str t1) (jF ⟨J.sp, J.text, np.1, J.heard + 1, J.said⟩ m po) = jF ⟨J.sp, t1, np.1, J.heard + 1, J.said⟩ m po from rfl]
      have hsp : J.sp ≠ 0 := by have := jk.s1; omega
      have hh0 := jk.h0
      have hlog2 : (J.heard + 1).natAbs.log2 < 1920 := log_small (by omega) (by omega)
      have hlen2 : (sI (J.heard + 1)).length ≤ 4 := sI_len (by omega) (by omega)
      have hnp : 0 ≤ np.1 ∧ np.1 < M.rows.length := by
        have := mk.rp _ _ _ _ e1 e2
        exact ⟨this.1, this.2.1⟩
      have hlog3 : np.1.natAbs.log2 < 1920 := log_small hnp.1 (by have := mk.r2; omega)
      have hlen3 : (sI np.1).length ≤ 4 := sI_len hnp.1 (by have := mk.r2; omega)
      have ht1l : (t1.length : Int) ≤ 611 + 30 * J.heard := by
        rw [← ht1, str_len, str_len, str_len]
        show ((_ + (6 + _ + 1) : Nat) : Int) ≤ _
        omega
      have d1 : (("state " : Str)).length + (sI (J.heard + 1)).length ≤ sizeLine := small _ (by show 6 + _ ≤ _; omega)
      have d2 : (("state " : Str) ++ sI (J.heard + 1)).length + ((" " : Str)).length ≤ sizeLine := small _ (by rw [str_len]; show 6 + _ + 1 ≤ _; omega)
      have d3 : (("state " : Str) ++ sI (J.heard + 1) ++ (" " : Str)).length + (sI np.1).length ≤ sizeLine := small _ (by rw [str_len, str_len]; show 6 + _ + 1 + _ ≤ _; omega)
      have d4 : (("state " : Str) ++ sI (J.heard + 1) ++ (" " : Str) ++ sI np.1).length + (("\n" : Str)).length ≤ sizeLine := small _ (by rw [str_len, str_len, str_len]; show 6 + _ + 1 + _ + 1 ≤ _; omega)
      have d5 : t1.length + (("state " : Str) ++ sI (J.heard + 1) ++ (" " : Str) ++ sI np.1 ++ ("\n" : Str)).length ≤ sizeLine := small _ (by rw [str_len, str_len, str_len, str_len]; show _ + (6 + _ + 1 + _ + 1) ≤ _; omega)
      generalize ht2 : (if (J.heard + 1).fmod J.sp = 0 then t1 ++ (("state " : Str) ++ sI (J.heard + 1) ++ (" " : Str) ++ sI np.1 ++ ("\n" : Str)) else t1) = t2
      refine zs_when_k (fun H' => H' = upd H j (.ins CJ dx (jF ⟨J.sp, t2, np.1, J.heard + 1, J.said⟩ m po))) (by k_ownIn) (fun e Nx k => ?_) (fun e => ?_) ?_
      · refine z_fldaug (x := .str t1) (z := .str (t1 ++ (("state " : Str) ++ sI (J.heard + 1) ++ (" " : Str) ++ sI np.1 ++ ("\n" : Str)))) (by k_upd) upd_same (by assumption) (by assumption) rfl (by k_upd) (fun _ q => ⟨_, _, rfl, rfl, d5, q⟩) (by show 6 < 1000; decide) (k _ ?_)
        rw [decide_eq_true_eq] at e
        rw [upd_upd, ← ht2, if_pos (V.int.inj e)] <;> rfl
      · rw [decide_eq_false_iff_not] at e
        rw [← ht2, if_neg (fun z => e (by rw [z]))]
      rintro H' rfl
      refine zs_when (by k_ownIn) (fun e => ?_) (fun e => ?_)
      · refine ⟨Nat.zero_le _, fun p hp => ?_⟩
        rw [decide_eq_true_eq] at e
        have eh : hear M J l = ⟨J.sp, t2, np.1, J.heard + 1, J.said⟩ := by
          unfold hear
          rw [hx, ht1, ht2, if_pos e]
        have es : says M J l = [] := if_pos e
        have hpj : H p = none := by
          by_cases h : p = j
          · rw [h, upd_same] at hp
            cases hp
          · rw [upd_ne h] at hp
            exact hp
        have npj : p ≠ j := fun z => by rw [z, hj] at hpj; cases hpj
        refine q2 l0 l1 _ p (fun b o h n => keep_new hp (keep_ne n h)) ?_ hpj ?_
        · rw [eh]
          exact ⟨dx, po, keep_new hp upd_same, keep_new hp (keep_ne npoj hpo)⟩
        · rw [es]
          exact upd_same
      · rw [decide_eq_false_iff_not] at e
        have eh : hear M J l = ⟨J.sp, t2, np.1, J.heard + 1, J.said ++ [np.2]⟩ := by
          unfold hear
          rw [hx, ht1, ht2, if_neg e]
        have es : says M J l = [np.2] := by
          unfold says
          rw [if_neg e, hx]
        have hal := jk.a0
        refine ⟨.ref j, rfl, j, CJ, dx, _, .ref po, rfl, upd_same, by assumption, by assumption, rfl, ?_⟩
        refine ⟨.int np.2, rfl, small 1, fun q hq => ?_⟩
        have nqj : q ≠ j := fun z => by rw [z, upd_same] at hq; cases hq
        have hq0 : H q = none := by
          rw [upd_ne nqj] at hq
          exact hq
        have npoq : po ≠ q := ne_of_none hpo hq0
        have fin : ∀ (pn : Addr) (H2 : Hp), H2 j = some (.ins CJ dx (jF ⟨J.sp, t2, np.1, J.heard + 1, J.said⟩ m po)) → H2 pn = some (.tup ((J.said ++ [np.2]).map V.int)) → Fr j H H2 → j ≠ pn →
            ∀ p, upd H2 j (.ins CJ dx (jF ⟨J.sp, t2, np.1, J.heard + 1, J.said ++ [np.2]⟩ m pn)) p = none → Q (.ref p) (upd (upd H2 j (.ins CJ dx (jF ⟨J.sp, t2, np.1, J.heard + 1, J.said ++ [np.2]⟩ m pn))) p (.lst [.int np.2])) := fun pn H2 g1 g2 g3 g4 p hp => by
          have npj : p ≠ j := fun z => by rw [z, upd_same] at hp; cases hp
          have hp2 : H2 p = none := by
            rw [upd_ne npj] at hp
            exact hp
          have hp0 : H p = none := by
            cases e0 : H p with
            | none => rfl
            | some o => rw [g3 _ _ e0 npj] at hp2; cases hp2
          refine q2 l0 l1 _ p (fun b o h n => keep_new hp (keep_ne n (g3 b o h n))) ?_ hp0 ?_
          · rw [eh]
            exact ⟨dx, pn, keep_new hp upd_same, keep_new hp (keep_ne g4.symm g2)⟩
          · rw [es]
            exact upd_same
        refine ⟨po, q, J.said.map V.int, [.int np.2], rfl, rfl, SqT.of (keep_new hq (keep_ne npoj hpo)), SqT.of upd_same, small _ (by rw [List.length_map]; show _ + 1 ≤ _; omega), fun e0 => ?_, fun _ e0 => (nomatch e0), fun _ _ pn hpn => ?_⟩
        · refine ⟨.ref j, rfl, j, CJ, dx, _, rfl, keep_new hq upd_same, by assumption, by assumption, (by show 6 < 1000; decide), ?_⟩
          refine ⟨.int np.2, rfl, small 1, fin q _ (keep_new hq upd_same) ?_ (fun b o h n => keep_new hq (keep_ne n h)) nqj.symm⟩
          rw [upd_same, List.map_append, e0]
          rfl
        · have npnj : pn ≠ j := fun z => by rw [z, upd_ne nqj.symm, upd_same] at hpn; cases hpn
          refine ⟨.ref j, rfl, j, CJ, dx, _, rfl, keep_new hpn (keep_new hq upd_same), by assumption, by assumption, (by show 6 < 1000; decide), ?_⟩
          refine ⟨.int np.2, rfl, small 1, fin pn _ (keep_new hpn (keep_new hq upd_same)) ?_ (fun b o h n => keep_new hpn (keep_new hq (keep_ne n h))) npnj.symm⟩
          rw [upd_same, List.map_append]
          rfl
end
end Pk

namespace Pk
open PySem PySem.Spec PyProof.Rows L2 TL Pp
theorem dv_step (l : List Nat) (c : Nat) : NumText.digitsVal (l ++ [c]) = NumText.digitsVal l * 10 + (c - 48) := by
  unfold NumText.digitsVal
  rw [List.foldl_append]
  rfl
theorem dv_lt (l : List Nat) (h : l.all isDig = true) : NumText.digitsVal l < 10 ^ l.length := by
  generalize hn : l.length = n
  induction n generalizing l with
  | zero =>
    rw [List.length_eq_zero_iff.mp hn]
    decide
  | succ n ih =>
    have hne : l ≠ [] := fun e => by rw [e] at hn; cases hn
    rw [← List.dropLast_concat_getLast hne] at h ⊢
    rw [List.all_append, Bool.and_eq_true] at h
    have h1 := ih l.dropLast h.1 (by rw [List.length_dropLast, hn]; rfl)
    have h2 : isDig (l.getLast hne) = true := by simpa using h.2
    unfold isDig at h2
    rw [Bool.and_eq_true, decide_eq_true_eq, decide_eq_true_eq] at h2
    rw [dv_step, Nat.pow_succ]
    omega
theorem big_log {n k : Nat} (hk : k ≤ 500) (h : n < 10 ^ k) : (n : Int).natAbs.log2 < 1920 := by
  have e : (n : Int).natAbs = n := Int.natAbs_natCast n
  rw [e]
  have h1 : n < 2 ^ 1920 := Nat.lt_trans (Nat.lt_of_lt_of_le h (Nat.pow_le_pow_right (by decide) hk)) (by decide +kernel)
  by_cases h0 : n = 0
  · rw [h0]; decide
  · exact (Nat.log2_lt h0).mpr h1
theorem sI_num (n : Nat) : tl (sI (n : Int)) = numL n := tl_num n
/-! ### the lines' readers, as data -/
def rdLet (M : Mac) (l : List Nat) : Option Nat := if l.take 6 = tl ("heard " : Str) then (match rdNum (l.drop 6) with
  | some n => if M.inp ≤ (n : Int) then none else some n
  | none => none) else none
def hearAll (M : Mac) : Jn → List (List Nat) → Option Jn
  | J, [] => some J
  | J, l :: r => if l.take 6 = tl ("state " : Str) then hearAll M J r else match rdLet M l with
    | none => none
    | some n => hearAll M (hear M J (n : Int)) r
/-- what recover gives -/
def recov (M : Mac) (z : List Nat) : Option Jn := match lns (keptL z) with
  | [] => some (jNew M 4)
  | f :: r => if f.take 8 = tl ("journal " : Str) then (match rdNum (f.drop 8) with
    | none => none
    | some sp => if sp = 0 then none else match hearAll M (jNew M (sp : Int)) r with
      | none => none
      | some J => if (tl J.text).take (keptL z).length = keptL z then some J else none) else none
section
variable {P : Program} {w : World} {K : PySem.W.Frag} {mg : Str → Option Value} {base : Heap} {CJ CM CB CL CI : Addr}
abbrev s_Journal_init : Stmt := inClass (topS 7) 0
abbrev N_Journal_init : List Str := ["self", "machine", "spacing"]
theorem sc_Journal_init : FnScope N_Journal_init ["self", "machine", "spacing"] (defScope s_Journal_init) := ⟨rfl, rfl, rfl, by decide +kernel, rfl, by decide +kernel, by decide +kernel⟩
def spJInit (CJ CM : Addr) : Sp := fun vs H Q _ => ∃ (x dx m : Addr) (sp : Int) (M : Mac), vs = [.ref x, .ref m, .int sp] ∧ H x = some (.ins CJ dx []) ∧ IsMac CM H m M ∧ m ≠ x ∧ sp.natAbs.log2 < 1920 ∧ (sI sp).length ≤ 560 ∧
  ∀ H', Pp.Fr x H H' → IsJ CJ H' x m (jNew M sp) → Q .non H'
theorem ok_jinit {f : Addr} {fd : FuncData} (F : FunD K "__init__" "Journal.__init__" (defArgs s_Journal_init) (defBody s_Journal_init) (defScope s_Journal_init) [] [("spacing", .int 4)] f fd) (T : T0 K mg CJ CM CB CL CI) : FnOk P w K mg base CX0 1 f fd ["self", "machine", "spacing"] (spJInit CJ CM) := by
  refine F.ok sc_Journal_init (fun vs H Q E h => ?_) (fun cdv A outer s H vs Q E hr h => ?_)
  · obtain ⟨x, dx, m, sp, M, rfl, _⟩ := h
    rfl
  · obtain ⟨x, dx, m, sp, M, rfl, hx, ⟨dm, pmo, pmr, rs, hm, hmo, hmr, hrl, hrr⟩, nmx, hlog, hsl, q⟩ := h
    refine ⟨_, (pss_cons (ps_fld (pv 0) (pv 1) rfl)
(pss_cons (ps_fld (pv 0) (pv 2) rfl)
(pss_cons (ps_fld (pv 0) (pe_op op_add_str (pe_op op_add_str pe_str (pe_callTy call_str_int (by rfl) T.n_str (by decide +kernel) (pa_cons (pv 2) pa_nil))) pe_str) rfl)
(pss_cons (ps_fld (pv 0) pe_int rfl)
(pss_cons (ps_fld (pv 0) pe_int rfl)
(pss_one (ps_fld (pv 0) (pe_fldK (K := K) rfl (pv 1) rfl) rfl))))))), ?_⟩
    obtain ⟨_, _, _, _, _, _, _, _, _, _, _, _, _, _, _, _, _, _, _, _, _, _, _, _⟩ := T
    have c1 : (("journal " : Str)).length + (sI sp).length ≤ sizeLine := small _ (by show 8 + _ ≤ _; omega)
    have c2 : (("journal " : Str) ++ sI sp).length + NL.length ≤ sizeLine := small _ (by rw [str_len]; show 8 + _ + 1 ≤ _; omega)
    refine zs_fld (y := .ref m) (by k_upd) (by k_upd) hx (by assumption) (by assumption) (by show 0 < 1000; decide) ?_
    refine zs_fld (y := .int sp) (by k_upd) (by k_upd) upd_same (by assumption) (by assumption) (by show 1 < 1000; decide) ?_
    refine zs_fld (y := .str (("journal " : Str) ++ sI sp ++ NL)) (by k_upd) (by k_upd) upd_same (by assumption) (by assumption) (by show 2 < 1000; decide) ?_
    refine zs_fld (y := .int 0) (by k_upd) (by k_upd) upd_same (by assumption) (by assumption) (by show 3 < 1000; decide) ?_
    refine zs_fld (y := .int 0) (by k_upd) (by k_upd) upd_same (by assumption) (by assumption) (by show 4 < 1000; decide) ?_
    refine z_fld (y := .ref pmo) (by k_upd) (by k_upd) upd_same (by assumption) (by assumption) (by show 5 < 1000; decide) ?_
    rw [upd_upd, upd_upd, upd_upd, upd_upd, upd_upd]
    refine q _ (fun b o h n => keep_ne n h) ⟨dx, pmo, upd_same, keep_ne (ne_of hmo hx fun z => nomatch z) hmo⟩
abbrev s_read_letter : Stmt := topS 9
abbrev N_read_letter : List Str := ["line", "machine", "letter"]
theorem sc_read_letter : FnScope N_read_letter ["line", "machine"] (defScope s_read_letter) := ⟨rfl, rfl, rfl, by decide +kernel, rfl, by decide +kernel, by decide +kernel⟩
def spLet (CM CB : Addr) : Sp := fun vs H Q E => ∃ (z : Str) (m : Addr) (M : Mac), vs = [.str z, .ref m] ∧ IsMac CM H m M ∧ z.length ≤ 600 ∧ (∀ n, rdLet M (tl z) = some n → Q (.int (n : Nat)) H) ∧ (rdLet M (tl z) = none → E (.ref CB) none H)
theorem ok_let {f : Addr} {fd : FuncData} (F : FnP K "read_letter" s_read_letter f fd) (T : T0 K mg CJ CM CB CL CI) (f_read_number : FC P w K mg base (L2.CX P w) 1 "read_number" (spNum CB)) : FnOk P w K mg base (L2.CX P w) 2 f fd ["line", "machine"] (spLet CM CB) := by
  refine F.ok sc_read_letter (fun vs H Q E h => ?_) (fun cdv A outer s H vs Q E hr h => ?_)
  · obtain ⟨z, m, M, rfl, _⟩ := h
    rfl
  · obtain ⟨z, m, M, rfl, ⟨dm, pmo, pmr, rs, hm, hmo, hmr, hrl, hrr⟩, hz, q1, q2⟩ := h
    refine ⟨_, (pss_cons (ps_if (pt_cmpR op_ne (pe_slice sl_str (pv 0) po_none (po_some pe_int)) pe_str (nomark _))
  (pss_one (ps_raise rfl (takes_of rfl rfl rfl rfl) (pmk_x T.x_BadJournal rfl)))
  pss_nil)
(pss_cons (ps_set (i := 2) sc_read_letter.nd rfl (Or.inl rfl) (pe_cx f_read_number hr (by decide) (by rfl) (takes_of rfl rfl rfl rfl) (pa_cons (pe_slice sl_str (pv 0) (po_some pe_int) po_none) pa_nil)))
(pss_cons (ps_if (pt_cmpR op_ge (pv 2) (pe_fldK (K := K) rfl (pv 1) rfl) (nomark _))
  (pss_one (ps_raise rfl (takes_of rfl rfl rfl rfl) (pmk_x T.x_BadJournal rfl)))
  pss_nil)
(pss_one (ps_ret (pv 2)))))), ?_⟩
    obtain ⟨_, _, _, _, _, _, _, _, _, _, _, _, _, _, _, _, _, _, _, _, _, _, _, _⟩ := T
    have hzs : z.length ≤ sizeLine := small _ (by omega)
    refine zs_when (by k_ownIn) (fun e => ?_) (fun e => ?_)
    · refine q2 ?_
      unfold rdLet
      rw [if_neg]
      intro h
      rw [Bool.not_eq_true', decide_eq_false_iff_not] at e
      exact e (congrArg V.str (ext_tl ((cut_to6 z).trans h)))
    · have h6 : (tl z).take 6 = tl ("heard " : Str) := by
        have e : V.str (cutS z none (some 6)) = V.str ("heard " : Str) := by
          cases hd : decide (V.str (cutS z none (some 6)) = V.str ("heard " : Str)) with
          | true => exact of_decide_eq_true hd
          | false => rw [hd] at e; cases e
        rw [← cut_to6 z]
        exact congrArg tl (V.str.inj e)
      have el : rdLet M (tl z) = match rdNum ((tl z).drop 6) with
        | some n => if M.inp ≤ (n : Int) then none else some n
        | none => none := by
        unfold rdLet
        rw [if_pos h6]
      have hw := cut_from6 z
      have hwl : (tl (cutS z (some 6) none)).length ≤ 640 := by
        rw [hw, List.length_drop, ← len_tl]
        omega
      refine zs_call (by k_places) ?_
      refine ⟨cutS z (some 6) none, rfl, hwl, fun n hn => ?_, fun hn => ?_⟩
      · have hn' : rdNum ((tl z).drop 6) = some n := by
          rw [← hw]
          exact hn
        rw [hn'] at el
        refine zs_when (by k_ownIn) (fun e => ?_) (fun e => ?_)
        · rw [decide_eq_true_eq] at e
          refine q2 ?_
          rw [el]
          exact if_pos e
        · rw [decide_eq_false_iff_not] at e
          refine z_ret (by k_upd) (q1 n ?_)
          rw [el]
          exact if_neg e
      · refine q2 ?_
        rw [el, ← hw]
        rw [hn]
end
end Pk

namespace Pk
open PySem PySem.Spec PyProof.Rows L2 TL Pp
theorem jNew_ok {M : Mac} {sp : Int} (m : MOk M) (h1 : 1 ≤ sp) (h2 : (sI sp).length ≤ 560) : JOk M (jNew M sp) := by
  have l1 := m.l1
  have ol := m.ol
  have r1 := m.r1
  refine ⟨h1, Int.le_refl 0, ?_, Int.le_refl 0, by show (0 : Int) < _; omega, ?_⟩
  · show (((("journal " : Str) ++ sI sp ++ ("\n" : Str)).length : Nat) : Int) ≤ 600 + 30 * 0
    rw [str_len, str_len]
    show ((8 + _ + 1 : Nat) : Int) ≤ _
    omega
  · show (M.op.length : Int) ≤ 10 + 0
    rw [ol]
    split <;> omega
theorem rdNum_lt {l : List Nat} {n : Nat} (h : rdNum l = some n) : n < 10 ^ l.length := by
  unfold rdNum at h
  split at h
  · cases h
  · split at h
    · rename_i hd
      cases h
      exact dv_lt l hd
    · cases h
section
variable {P : Program} {w : World} {K : PySem.W.Frag} {mg : Str → Option Value} {base : Heap} {CJ CM CB CL CI : Addr}
theorem mkJ1 {H : Hp} {m x dx : Addr} {M : Mac} {sp : Int} {R : Hp → Prop} {E : XK} (hM : IsMac CM H m M) (h1 : sp.natAbs.log2 < 1920) (h2 : (sI sp).length ≤ 560) (hx : H x = none) (hdx : H dx = none) (ne : dx ≠ x) (k : ∀ H', Same H H' → IsJ CJ H' x m (jNew M sp) → R H') :
    spJInit CJ CM [.ref x, .ref m, .int sp] (upd (upd H dx (.own x)) x (.ins CJ dx [])) (fun v H3 => v = .non ∧ R H3) E := by
  have hm : ∃ o, H m = some o := by
    obtain ⟨_, _, _, _, h, _⟩ := hM
    exact ⟨_, h⟩
  obtain ⟨o, hm⟩ := hm
  have s : Same H (upd (upd H dx (.own x)) x (.ins CJ dx [])) := fun b o h => keep_ne (ne_of_none h hx) (keep_new hdx h)
  exact ⟨x, dx, m, sp, M, rfl, upd_same, hM.same s, ne_of_none hm hx, h1, h2, fun H' f j => ⟨rfl, k H' (fun b o h => f b o (s b o h) (ne_of_none h hx)) j⟩⟩
abbrev s_recover : Stmt := topS 10
abbrev N_recover : List Str := ["machine", "text", "kept", "lines", "spacing", "journal", "line"]
theorem sc_recover : FnScope N_recover ["machine", "text"] (defScope s_recover) := ⟨rfl, rfl, rfl, by decide +kernel, rfl, by decide +kernel, by decide +kernel⟩
def spRec (CJ CM CB : Addr) : Sp := fun vs H Q E => ∃ (m : Addr) (z : Str) (M : Mac), vs = [.ref m, .str z] ∧ IsMac CM H m M ∧ MOk M ∧ z.length ≤ 500 ∧
  (∀ J, recov M (tl z) = some J → ∀ (H' : Hp) (p : Addr), Same H H' → H p = none → IsJ CJ H' p m J → JOk M J → Q (.ref p) H') ∧ (recov M (tl z) = none → ∀ H', Same H H' → E (.ref CB) none H')
theorem ok_rec {f : Addr} {fd : FuncData} (F : FnP K "recover" s_recover f fd) (T : T0 K mg CJ CM CB CL CI) (f_read_number : FC P w K mg base (L2.CX P w) 1 "read_number" (spNum CB)) (f_read_letter : FC P w K mg base (L2.CX P w) 2 "read_letter" (spLet CM CB))
    (t_Journal_hear : TC P w K mg base (L2.CX P w) 1 CJ "hear" (spHear CJ CM CL)) (m_Journal : KC P w K mg base CX0 1 "Journal" CJ (spJInit CJ CM) [.int 4]) (m_Journal_k : KK P w K mg base CX0 1 "Journal" CJ (spJInit CJ CM) ["spacing"] (fun vs zs => vs ++ zs)) :
    FnOk P w K mg base (L2.CX P w) 3 f fd ["machine", "text"] (spRec CJ CM CB) := by
  refine F.ok sc_recover (fun vs H Q E h => ?_) (fun cdv A outer s H vs Q E hr h => ?_)
  · obtain ⟨m, z, M, rfl, _⟩ := h
    rfl
  · obtain ⟨m, z, M, rfl, hM, mk, hz, q1, q2⟩ := h
    refine ⟨_, (pss_cons (ps_set (i := 2) sc_recover.nd rfl (Or.inl rfl) (pe_slice sl_str (pv 1) po_none (po_some (pe_op op_add (pe_bm PySem.F.plainAttrs_str PySem.F.slot_str_rfind PySem.F.type_str_rfind mt_rfind (pv 1) (pa_cons pe_str pa_nil)) pe_int))))
(pss_cons (ps_if (pt_cmpR op_eq (pv 2) pe_str (nomark _))
  (pss_one (ps_ret (pe_mk0 m_Journal hr (by decide) (by rfl) (pa_cons (pv 0) pa_nil))))
  pss_nil)
(pss_cons (ps_set (i := 3) sc_recover.nd rfl (Or.inl rfl) (pe_slice (sl_listK (K := K) rfl) (pe_split (pv 2) pe_str) po_none (po_some (pe_un un_neg pe_int))))
(pss_cons (ps_if (pt_cmpR op_ne (pe_slice sl_str (pe_ix (ix_listK (K := K) rfl) (pv 3) pe_int (fun _ _ => rfl)) po_none (po_some pe_int)) pe_str (nomark _))
  (pss_one (ps_raise rfl (takes_of rfl rfl rfl rfl) (pmk_x T.x_BadJournal rfl)))
  pss_nil)
(pss_cons (ps_set (i := 4) sc_recover.nd rfl (Or.inl rfl) (pe_cx f_read_number hr (by decide) (by rfl) (takes_of rfl rfl rfl rfl) (pa_cons (pe_slice sl_str (pe_ix (ix_listK (K := K) rfl) (pv 3) pe_int (fun _ _ => rfl)) (po_some pe_int) po_none) pa_nil)))
(pss_cons (ps_if (pt_cmpR op_eq (pv 4) pe_int (nomark _))
  (pss_one (ps_raise rfl (takes_of rfl rfl rfl rfl) (pmk_x T.x_BadJournal rfl)))
  pss_nil)
(pss_cons (ps_set (i := 5) sc_recover.nd rfl (Or.inl rfl) (pe_mkk m_Journal_k hr (by decide) (by rfl) (pa_cons (pv 0) pa_nil) (pk_cons (pv 4) pk_nil)))
(pss_cons (ps_for PassesOwn.leaving rfl (pi_listK (K := K) rfl (pe_slice (sl_listK (K := K) rfl) (pv 3) (po_some pe_int) po_none)) (pg_name (i := 6) sc_recover.nd rfl (Or.inl rfl))
  (pss_one (ps_if (pt_cmpR op_ne (pe_slice sl_str (pv 6) po_none (po_some pe_int)) pe_str (nomark _))
    (pss_one (ps_expr (pe_mtx t_Journal_hear hr (by decide) (takes_of rfl rfl rfl rfl) (pv 5) (pa_cons (pe_cx f_read_letter hr (by decide) (by rfl) (takes_of rfl rfl rfl rfl) (pa_cons (pv 6) (pa_cons (pv 0) pa_nil))) pa_nil))))
    pss_nil)))
(pss_cons (ps_if (pt_cmpR op_ne (pe_slice sl_str (pe_fldK (K := K) rfl (pv 5) rfl) po_none (po_some (pe_callB call_len_str (by rfl) T.n_len PySem.boot_len (pa_cons (pv 2) pa_nil)))) (pv 2) (nomark _))
  (pss_one (ps_raise rfl (takes_of rfl rfl rfl rfl) (pmk_x T.x_BadJournal rfl)))
  pss_nil)
(pss_one (ps_ret (pv 5)))))))))))), ?_⟩
    obtain ⟨_, _, _, _, _, _, _, _, _, _, _, _, _, _, _, _, _, _, _, _, _, _, _, _⟩ := T
    have hzs : z.length ≤ sizeLine := small _ (by omega)
    have hk := kept_eq z
    refine zs_set (v := .str (cutS z none (some (Txt.rfind z NL + 1)))) (by k_upd) ?_
    generalize cutS z none (some (Txt.rfind z NL + 1)) = k at hk
    have hkl : k.length ≤ 500 := by
      obtain ⟨n, hn⟩ := keptL_pre (tl z)
      rw [len_tl, hk, hn, List.length_take, ← len_tl]
      omega
    have hkk : keptL (tl k) = tl k := by
      rw [hk]
      exact keptL_kept _
    refine zs_when (by k_ownIn) (fun e => ?_) (fun e => ?_)
    · rw [decide_eq_true_eq] at e
      have e0 : keptL (tl z) = [] := by
        rw [← hk, V.str.inj e]
        rfl
      have er : recov M (tl z) = some (jNew M 4) := by
        unfold recov
        rw [e0]
        rfl
      refine ⟨.ref m, rfl, fun x dx hx hdx ne => ?_⟩
      exact mkJ1 hM (by decide) (by decide) hx hdx ne fun H' s j => q1 _ er H' x s hx j (jNew_ok mk (by decide) (by decide))
    · rw [decide_eq_false_iff_not] at e
      refine zs_raw ?_
      refine ⟨.str k, rfl, ⟨_, rfl⟩, k, NL, rfl, rfl, rfl, small _ (by omega), fun p hp => ⟨1, rfl, _, rfl, p, _, rfl, SqL.of upd_same, fun q hq => ?_⟩⟩
      rw [show (-1 : Int) = -1 from rfl, cutV_init, ← List.map_dropLast]
      have eL : ((Txt.split k NL).dropLast).map tl = lns (keptL (tl z)) := by
        rw [List.map_dropLast, split_NL, spl_kept hkk, hk, List.dropLast_concat]
      generalize (Txt.split k NL).dropLast = L at eL
      have sH : Same H (upd (upd H p (.lst ((Txt.split k NL).map V.str))) q (.lst (L.map V.str))) := fun b o h => keep_new hq (keep_new hp h)
      have hq0 : (upd (upd H p (.lst ((Txt.split k NL).map V.str))) q (.lst (L.map V.str))) q = some (.lst (L.map V.str)) := upd_same
      revert sH hq0
      generalize upd (upd H p (.lst ((Txt.split k NL).map V.str))) q (.lst (L.map V.str)) = H3
      intro sH hq0
      cases L with
      | nil =>
        refine absurd ?_ e
        have e1 := lns_join (keptL (tl z)) (keptL_kept _)
        rw [← eL] at e1
        have e2 : tl k = [] := hk.trans e1.symm
        exact congrArg V.str (ext_tl (e2.trans rfl))
      | cons f0 L =>
        have eL2 : lns (keptL (tl z)) = tl f0 :: L.map tl := eL.symm
        have hsz := lns_len (keptL (tl z))
        rw [eL2] at hsz
        have hkl2 : (keptL (tl z)).length ≤ 500 := by
          rw [← hk, ← len_tl]
          exact hkl
        have hf0 : f0.length ≤ 500 := by
          rw [len_tl]
          exact Nat.le_trans (hsz.2 (tl f0) (List.mem_cons_self ..)) hkl2
        have hLn : L.length < 500 := by
          have := hsz.1
          rw [List.length_cons, List.length_map] at this
          omega
        have hLl : ∀ y ∈ L, y.length ≤ 500 := fun y hy => by
          rw [len_tl]
          exact Nat.le_trans (hsz.2 (tl y) (List.mem_cons_of_mem _ (List.mem_map_of_mem hy))) hkl2
        have hfs : f0.length ≤ sizeLine := small _ (by omega)
        have hat : atI ((f0 :: L).map V.str) 0 = some (.str f0) := atI_nat (j := 0) rfl
        have er : recov M (tl z) = if (tl f0).take 8 = tl ("journal " : Str) then (match rdNum ((tl f0).drop 8) with
            | none => none
            | some sp => if sp = 0 then none else match hearAll M (jNew M (sp : Int)) (L.map tl) with
              | none => none
              | some J => if (tl J.text).take (keptL (tl z)).length = keptL (tl z) then some J else none) else none := by
          unfold recov
          rw [eL2] <;> rfl
        refine zs_when (by k_ownIn) (fun e => ?_) (fun e => ?_)
        · refine q2 ?_ H3 sH
          rw [er, if_neg]
          intro h
          rw [Bool.not_eq_true', decide_eq_false_iff_not] at e
          exact e (congrArg V.str (ext_tl ((cut_to8 f0).trans h)))
        · have h8 : (tl f0).take 8 = tl ("journal " : Str) := by
            have e : V.str (cutS f0 none (some 8)) = V.str ("journal " : Str) := by
              cases hd : decide (V.str (cutS f0 none (some 8)) = V.str ("journal " : Str)) with
              | true => exact of_decide_eq_true hd
              | false => rw [hd] at e; cases e
            rw [← cut_to8 f0]
            exact congrArg tl (V.str.inj e)
          rw [if_pos h8] at er
          have hw := cut_from8 f0
          have hwl : (tl (cutS f0 (some 8) none)).length ≤ 500 := by
            rw [hw, List.length_drop, ← len_tl]
            omega
          refine zs_call (by k_places) ?_
          refine ⟨cutS f0 (some 8) none, rfl, by omega, fun n hn => ?_, fun hn => ?_⟩
          rotate_left
          · refine q2 ?_ H3 sH
            rw [er, ← hw, hn]
          rw [← hw, hn] at er
          have hn10 := rdNum_lt hn
          have er2 : recov M (tl z) = if n = 0 then none else match hearAll M (jNew M (n : Int)) (L.map tl) with
              | none => none
              | some J => if (tl J.text).take (keptL (tl z)).length = keptL (tl z) then some J else none := er
          refine zs_when (by k_ownIn) (fun e => ?_) (fun e => ?_)
          · refine q2 ?_ H3 sH
            rw [decide_eq_true_eq] at e
            have e0 : n = 0 := by have := V.int.inj e; omega
            rw [er2, if_pos e0]
          · rw [decide_eq_false_iff_not] at e
            have hn0 : n ≠ 0 := fun h => e (by rw [h]; rfl)
            rw [if_neg hn0] at er2
            have hlog := big_log hwl hn10
            have hsl : (sI (n : Int)).length ≤ 560 := by
              rw [len_tl, sI_num]
              have := numL_len (k := 500) (by decide) (Nat.lt_of_lt_of_le hn10 (Nat.pow_le_pow_right (by decide) hwl))
              omega
            have hM3 := hM.same sH
            refine zs_raw ?_
            refine ⟨.ref m, rfl, .int n, rfl, rfl, rfl, fun x dx hx hdx ne => ?_⟩
            refine mkJ1 hM3 hlog hsl hx hdx ne fun H7 s7 hJ7 => ?_
            have hq7 := s7 _ _ hq0
            have sH7 := sH.trans s7
            have hM7 := hM3.same s7
            have hxH : H x = none := sH.free hx
            refine ⟨.ref q, rfl, 1, rfl, q, _, rfl, SqL.of hq7, fun b2 hb2 => ⟨b2, rfl, ⟨_, SqL.of upd_same⟩, ?_⟩⟩
            rw [cutV_tail, List.map_cons, List.drop_one, List.tail_cons]
            have hx7 : ∃ o, H7 x = some o := by
              obtain ⟨dx, po, h, _⟩ := hJ7
              exact ⟨_, h⟩
            obtain ⟨ox, hx7⟩ := hx7
            have nxq2 : x ≠ b2 := ne_of_none hx7 hb2
            have nmx : m ≠ x := by
              obtain ⟨_, _, _, _, h, _⟩ := hM3
              exact ne_of_none h hx
            have h80 : (upd H7 b2 (.lst (L.map V.str))) b2 = some (.lst (L.map V.str)) := upd_same
            have s8 : Same H7 (upd H7 b2 (.lst (L.map V.str))) := Same.new hb2
            have hx8 := s8 _ _ hx7
            revert h80 s8 hx8
            generalize upd H7 b2 (.lst (L.map V.str)) = H8
            intro h80 s8 hx8
            have sH8 := sH7.trans s8
            have sfin : ∀ H', Pp.Fr x H8 H' → Same H H' := fun H' f b o h => f b o (sH8 b o h) (ne_of_none h hxH)
            obtain ⟨dx7, po7, hJx, hJp⟩ := id hJ7
            refine for_list (xs := L.map V.str) (fun i σ H' => ∃ (y : Option V) (J : Jn), σ = [some (.ref m), some (.str z), some (.str k), some (.ref q), some (.int n), some (.ref x), y] ∧ Pp.Fr x H8 H' ∧ IsJ CJ H' x m J ∧ JOk M J ∧ J.heard ≤ i ∧
              hearAll M (jNew M (n : Int)) (L.map tl) = hearAll M J ((L.drop i).map tl)) ⟨none, _, rfl, Pp.Fr.refl, hJ7.same s8, jNew_ok mk (by omega) hsl, Int.le_refl 0, rfl⟩ ?_ ?_ ?_
            · rintro i σ' H' _ ⟨y, J, _, f, _⟩
              exact SqL.of (f _ _ h80 nxq2.symm)
            · rintro i v σ' H' hv ⟨y, J, rfl, f, hJ, jk, hh, eh⟩
              obtain ⟨ln, hln, rfl⟩ := map_at hv
              have hdr : L.drop i = ln :: L.drop (i + 1) := by
                obtain ⟨h1, h2⟩ := List.getElem?_eq_some_iff.mp hln
                rw [List.drop_eq_getElem_cons h1, h2]
              rw [hdr] at eh
              have hil : i < L.length := (List.getElem?_eq_some_iff.mp hln).1
              have hll := hLl ln (List.mem_of_getElem? hln)
              have hls : ln.length ≤ sizeLine := small _ (by omega)
              have hM' : IsMac CM H' m M := (hM7.same s8).fr (s8 _ _ hJx) nmx f
              refine z_when (by k_ownIn) (fun e => ?_) (fun e => ?_)
              · have ns : ¬ (tl ln).take 6 = tl ("state " : Str) := fun h => by
                  rw [Bool.not_eq_true', decide_eq_false_iff_not] at e
                  exact e (congrArg V.str (ext_tl ((cut_to6 ln).trans h)))
                have eh2 : hearAll M (jNew M (n : Int)) (L.map tl) = match rdLet M (tl ln) with
                    | none => none
                    | some l => hearAll M (hear M J (l : Int)) ((L.drop (i + 1)).map tl) := eh.trans (if_neg ns)
                obtain ⟨dx1, po1, hj1, hj2⟩ := id hJ
                refine ⟨.ref x, rfl, x, dx1, _, rfl, hj1, rfl, .str ln, rfl, .ref m, rfl, ln, m, M, rfl, hM', by omega, fun l hl => ?_, fun hl => ?_⟩
                · rw [hl] at eh2
                  have hl1 : (l : Int) < M.inp := by
                    unfold rdLet at hl
                    split at hl
                    · split at hl
                      · split at hl
                        · cases hl
                        · cases hl
                          omega
                      · cases hl
                    · cases hl
                  refine ⟨x, m, (l : Int), J, M, rfl, hJ, hM', nmx, mk, jk, by omega, fun bad => by omega, fun l0 l1 H'' p f2 hJ2 _ _ => ?_⟩
                  exact ⟨_, _, rfl, f.trans f2, hJ2, hear_ok mk jk l0 l1 (by omega), by show J.heard + 1 ≤ ((i + 1 : Nat) : Int); omega, eh2⟩
                · rw [hl] at eh2
                  refine q2 ?_ H' (sfin H' f)
                  rw [er2, eh2]
              · have ys : (tl ln).take 6 = tl ("state " : Str) := by
                  have e : V.str (cutS ln none (some 6)) = V.str ("state " : Str) := by
                    cases hd : decide (V.str (cutS ln none (some 6)) = V.str ("state " : Str)) with
                    | true => exact of_decide_eq_true hd
                    | false => rw [hd] at e; cases e
                  rw [← cut_to6 ln]
                  exact congrArg tl (V.str.inj e)
                exact ⟨_, J, rfl, f, hJ, jk, by omega, eh.trans (if_pos ys)⟩
            · rintro σ' H' ⟨y, J, rfl, f, hJ, jk, hh, eh⟩
              rw [List.length_map] at hh eh
              rw [List.drop_length] at eh
              have eh2 : hearAll M (jNew M (n : Int)) (L.map tl) = some J := eh
              rw [eh2] at er2
              have er3 : recov M (tl z) = if (tl J.text).take (keptL (tl z)).length = keptL (tl z) then some J else none := er2
              have hts : J.text.length ≤ sizeLine := small _ (by have := jk.t0; omega)
              have hks : k.length ≤ sizeLine := small _ (by omega)
              have ek : k.length = (keptL (tl z)).length := by rw [len_tl, hk]
              have hcut : tl (cutS J.text none (some (k.length : Int))) = (tl J.text).take (keptL (tl z)).length := (cut_to J.text k.length).trans (by rw [ek])
              obtain ⟨dx1, po1, hj1, hj2⟩ := id hJ
              dsimp only
              refine zs_when (by k_ownIn) (fun e => ?_) (fun e => ?_)
              · refine q2 ?_ H' (sfin H' f)
                rw [er3, if_neg]
                intro h
                rw [Bool.not_eq_true', decide_eq_false_iff_not] at e
                exact e (congrArg V.str (ext_tl (hcut.trans (h.trans hk.symm))))
              · have e2 : (tl J.text).take (keptL (tl z)).length = keptL (tl z) := by
                  have e : V.str (cutS J.text none (some (k.length : Int))) = V.str k := by
                    cases hd : decide (V.str (cutS J.text none (some (k.length : Int))) = V.str k) with
                    | true => exact of_decide_eq_true hd
                    | false => rw [hd] at e; cases e
                  rw [← hcut, ← hk]
                  exact congrArg tl (V.str.inj e)
                rw [if_pos e2] at er3
                exact z_ret (by k_upd) (q1 J er3 H' x (sfin H' f) hxH hJ jk)
end
end Pk

namespace Pk
open PySem PySem.Spec PyProof.Rows L2 TL Pp
theorem ixN_pos {n : Nat} {i : Int} (h0 : 0 ≤ i) (h1 : i < n) : ixN n i = some i.toNat := by
  unfold ixN
  rw [if_pos h0, if_pos h1]
theorem fmod_rng (k : Int) {n : Int} (h : 0 < n) : 0 ≤ k.fmod n ∧ k.fmod n < n := ⟨Int.fmod_nonneg_of_pos k h, Int.fmod_lt_of_pos k h⟩
section
variable {P : Program} {w : World} {K : PySem.W.Frag} {mg : Str → Option Value} {base : Heap} {CJ CM CB CL CI : Addr}
abbrev s_law_draws : Stmt := topS 17
abbrev N_law_draws : List Str := ["script", "count", "cells", "found", "mixed", "k", "j", "cell", "again"]
theorem sc_law_draws : FnScope N_law_draws ["script", "count"] (defScope s_law_draws) := ⟨rfl, rfl, rfl, by decide +kernel, rfl, by decide +kernel, by decide +kernel⟩
def spDrawsL (K : PySem.W.Frag) : Sp := fun vs H Q _ => ∃ (a : Addr) (ns : List Int) (n : Int), vs = [.ref a, .int n] ∧ SqL K H a (ns.map V.int) ∧ ns.length ≤ 1000 ∧ 0 ≤ n ∧ n ≤ 1000 ∧
  ∀ (H' : Hp) (p : Addr) (ds : List Int), Same H H' → H p = none → H' p = some (.lst (ds.map V.int)) → Q (.ref p) H'
def spDraws (K : PySem.W.Frag) : Sp := fun vs H Q _ => ∃ (a : Addr) (ns : List Int) (n : Int), vs = [.ref a, .int n] ∧ SqL K H a (ns.map V.int) ∧ ns.length ≤ 1000 ∧ 0 ≤ n ∧ n ≤ 1000 ∧
  ∀ (H' : Hp) (p : Addr), Same H H' → H' p = some (DR p) → Q (.ref p) H'
theorem ok_drawsL {f : Addr} {fd : FuncData} (F : FnP K "_law_draws" s_law_draws f fd) (T : T0 K mg CJ CM CB CL CI) : FnOk P w K mg base CX0 1 f fd ["script", "count"] (spDrawsL K) := by
  refine F.ok sc_law_draws (fun vs H Q E h => ?_) (fun cdv A outer s H vs Q E hr h => ?_)
  · obtain ⟨a, ns, n, rfl, _⟩ := h
    rfl
  · obtain ⟨a, ns, n, rfl, hS, hns, hn0, hn1, q⟩ := h
    refine ⟨_, (pss_cons (ps_set (i := 2) sc_law_draws.nd rfl (Or.inl rfl) (pe_callTy (call_listK (K := K) rfl) (by rfl) T.n_list (by decide +kernel) (pa_cons (pv 0) pa_nil)))
(Evl.pss_cut (ps_if (pt_cmpR op_eq (pe_callB (call_lenK (K := K) rfl) (by rfl) T.n_len PySem.boot_len (pa_cons (pv 2) pa_nil)) pe_int (nomark _))
  (pss_one (ps_set (i := 2) sc_law_draws.nd rfl (Or.inl rfl) (pe_lst (pa_cons pe_int pa_nil))))
  pss_nil)
(pss_cons (ps_set (i := 3) sc_law_draws.nd rfl (Or.inl rfl) (pe_lst pa_nil))
(pss_cons (ps_set (i := 4) sc_law_draws.nd rfl (Or.inl rfl) pe_int)
(pss_cons (ps_for PassesOwn.leaving rfl (pi_range1 rfl T.n_range (pa_cons (pv 1) pa_nil)) (pg_name (i := 5) sc_law_draws.nd rfl (Or.inl rfl))
  (pss_cons (ps_set (i := 6) sc_law_draws.nd rfl (Or.inl rfl) (pe_op op_modN (pv 5) (pe_callB (call_lenK (K := K) rfl) (by rfl) T.n_len PySem.boot_len (pa_cons (pv 2) pa_nil))))
  (pss_cons (ps_set (i := 7) sc_law_draws.nd rfl (Or.inl rfl) (pe_ix (ix_listK (K := K) rfl) (pv 2) (pv 6) (fun _ _ => rfl)))
  (pss_cons (ps_set (i := 4) sc_law_draws.nd rfl (Or.inl rfl) (pe_op op_modN (pe_callTy call_int1 (by rfl) T.n_int (by decide +kernel) (pa_cons (pe_op op_add (pe_op op_add (pe_op op_add (pe_op op_mul (pv 4) pe_int) (pe_op op_mul (pe_op op_modN (pe_callTy call_int1 (by rfl) T.n_int (by decide +kernel) (pa_cons (pv 7) pa_nil)) pe_int) pe_int)) (pe_op op_mul (pv 5) pe_int)) pe_int) pa_nil)) pe_int))
  (pss_cons (ps_set (i := 8) sc_law_draws.nd rfl (Or.inl rfl) (pe_op op_modN (pe_callTy call_int1 (by rfl) T.n_int (by decide +kernel) (pa_cons (pe_op op_add (pe_op op_add (pe_op op_mul (pv 4) (pv 4)) (pe_op op_mul pe_int (pv 4))) (pv 5)) pa_nil)) pe_int))
  (pss_one (ps_if (pt_cmpR op_ge (pv 7) (pe_op op_pow pe_int pe_int) (nomark _))
    (pss_cons (ps_expr (pe_bm PySem.F.plainAttrs_list PySem.F.slot_list_append PySem.F.type_list_append mt_append (pv 3) (pa_cons (pe_op op_modN (pe_callTy call_int1 (by rfl) T.n_int (by decide +kernel) (pa_cons (pv 7) pa_nil)) pe_int) pa_nil)))
    (pss_one (ps_asg (pe_op op_fdivN (pv 7) pe_int) (pg_sub (pv 2) (pv 6) set_list))))
    (pss_one (ps_expr (pe_bm PySem.F.plainAttrs_list PySem.F.slot_list_append PySem.F.type_list_append mt_append (pv 3) (pa_cons (pe_op op_modN (pe_callTy call_int1 (by rfl) T.n_int (by decide +kernel) (pa_cons (pv 8) pa_nil)) pe_int) pa_nil)))))))))))
(pss_cons (ps_expr (pe_bm0 PySem.F.plainAttrs_list PySem.F.slot_list_reverse PySem.F.type_list_reverse mt_reverse (pv 3)))
(pss_one (ps_ret (pv 3))))))))), ?_⟩
    obtain ⟨_, _, _, _, _, _, _, _, _, _, _, _, _, _, _, _, _, _, _, _, _, _, _, _⟩ := T
    refine zs_raw ?_
    refine ⟨.ref a, rfl, a, _, rfl, .inl hS, fun c0 hc0 => ?_⟩
    refine zs_cut (M := fun σ' H' => ∃ (c : Addr) (cs : List Int), σ' = [some (.ref a), some (.int n), some (.ref c), none, none, none, none, none, none] ∧ Same H H' ∧ H c = none ∧ H' c = some (.lst (cs.map V.int)) ∧ 1 ≤ cs.length ∧ cs.length ≤ 1000) ?_ ?_
    · refine z_when (by k_ownIn) (fun e => ?_) (fun e => ?_)
      · refine z_raw ?_
        refine ⟨small 1, fun c hc => ?_⟩
        have hcH : H c = none := by
          by_cases h : c = c0
          · rw [h]; exact hc0
          · rw [upd_ne h] at hc; exact hc
        exact ⟨c, [7], rfl, fun b o h => keep_new hc (keep_new hc0 h), hcH, upd_same, Nat.le_refl _, by decide⟩
      · rw [decide_eq_false_iff_not] at e
        refine ⟨c0, ns, rfl, Same.new hc0, hc0, upd_same, ?_, hns⟩
        cases ns with
        | nil => exact absurd rfl e
        | cons _ _ => simp
    rintro σ1 H1 ⟨c, cs, rfl, s1, hc, hc1, hl1, hl2⟩
    refine zs_raw ?_
    refine ⟨small 0, fun f hf => ?_⟩
    have hfH : H f = none := s1.free hf
    have nfc : c ≠ f := ne_of_none hc1 hf
    refine zs_set (by k_upd) ?_
    refine zs_forR (n := n) (by k_places) (by omega) (by omega) (fun i σ H' => ∃ (m : Int) (cs fs : List Int) (y5 y6 y7 y8 : Option V), σ = [some (.ref a), some (.int n), some (.ref c), some (.ref f), some (.int m), y5, y6, y7, y8] ∧ Same H H' ∧ H' c = some (.lst (cs.map V.int)) ∧ 1 ≤ cs.length ∧ cs.length ≤ 1000 ∧
      H' f = some (.lst (fs.map V.int)) ∧ fs.length ≤ i ∧ 0 ≤ m ∧ m < 2147483647) ⟨12345, cs, [], none, none, none, none, rfl, s1.trans (Same.new hf), keep_new hf hc1, hl1, hl2, upd_same, Nat.le_refl _, by decide, by decide⟩ ?_ ?_
    · rintro i σ' H' hi ⟨m, cs, fs, y5, y6, y7, y8, rfl, s2, hc2, hl1, hl2, hf2, hfl, hm0, hm1⟩
      have hne : ((cs.map V.int).length : Int) ≠ 0 := by rw [List.length_map]; omega
      have hj := fmod_rng (i : Int) (n := ((cs.map V.int).length : Int)) (by rw [List.length_map]; omega)
      refine zs_set (v := .int ((i : Int).fmod ((cs.map V.int).length : Int))) (by k_upd) ?_
      generalize (i : Int).fmod ((cs.map V.int).length : Int) = j at hj
      have hjl : j.toNat < cs.length := by have := hj.2; rw [List.length_map] at this; omega
      have hat : atI (cs.map V.int) j = some (.int cs[j.toNat]) := atI_pos hj.1 (by rw [List.getElem?_map, List.getElem?_eq_getElem hjl] <;> rfl)
      refine zs_set (v := .int cs[j.toNat]) (by k_upd) ?_
      generalize cs[j.toNat] = cell
      refine zs_set (by k_upd) ?_
      generalize hm' : Int.fmod _ 2147483647 = m'
      have hmr : 0 ≤ m' ∧ m' < 2147483647 := by
        rw [← hm']
        exact fmod_rng _ (by decide)
      have hmr0 := hmr.1
      have hmr1 := hmr.2
      refine zs_set (by k_upd) ?_
      generalize Int.fmod _ 1000003 = ag
      refine z_if (by k_ownIn) (fun e => ?_) (fun e => ?_)
      · refine zs_rawd ?_
        refine ⟨.ref f, rfl, .inl ⟨rfl, _, SqL.of hf2⟩, .int cell, rfl, .inl ⟨cell, rfl, ?_⟩⟩
        refine ⟨_, _, rfl, rfl, (by show (1000 : Int) ≠ 0; decide), ?_⟩
        refine ⟨f, _, _, rfl, rfl, hf2, small _ (by rw [List.length_map]; omega), ?_⟩
        have hc3 : (upd H' f (.lst (fs.map V.int ++ [.int (cell.fmod 1000)]))) c = some (.lst (cs.map V.int)) := keep_ne nfc hc2
        refine z_asg (v := .int (cell.fdiv 1000)) (by k_upd) ?_
        refine ⟨.ref c, rfl, .int j, rfl, c, _, j, j.toNat, rfl, rfl, hc3, ixN_pos hj.1 hj.2, ?_⟩
        refine ⟨m', cs.set j.toNat (cell.fdiv 1000), fs ++ [cell.fmod 1000], _, _, _, _, rfl, ?_, ?_, by rw [List.length_set]; exact hl1, by rw [List.length_set]; exact hl2, ?_, by rw [List.length_append]; show _ + 1 ≤ _; omega, hmr0, hmr1⟩
        · exact fun b o h => keep_ne (ne_of_none h hc) (keep_ne (ne_of_none h hfH) (s2 b o h))
        · rw [upd_same, List.map_set]
        · rw [upd_ne nfc.symm, upd_same, List.map_append]
          rfl
      · refine ⟨.ref f, rfl, .inl ⟨rfl, _, SqL.of hf2⟩, .int ag, rfl, .inl ⟨ag, rfl, ?_⟩⟩
        refine ⟨_, _, rfl, rfl, (by show (1000 : Int) ≠ 0; decide), ?_⟩
        refine ⟨f, _, _, rfl, rfl, hf2, small _ (by rw [List.length_map]; omega), ?_⟩
        refine ⟨m', cs, fs ++ [ag.fmod 1000], _, _, _, _, rfl, ?_, ?_, hl1, hl2, ?_, by rw [List.length_append]; show _ + 1 ≤ _; omega, hmr0, hmr1⟩
        · exact fun b o h => keep_ne (ne_of_none h hfH) (s2 b o h)
        · exact keep_ne nfc hc2
        · rw [upd_same, List.map_append]
          rfl
    · rintro σ' H' ⟨m, cs, fs, y5, y6, y7, y8, rfl, s2, hc2, hl1, hl2, hf2, hfl, hm0, hm1⟩
      refine zs_rawd ?_
      refine ⟨.ref f, rfl, .inl ⟨rfl, _, SqL.of hf2⟩, f, _, rfl, rfl, hf2, ?_⟩
      refine ⟨.ref f, rfl, q _ f fs.reverse (fun b o h => keep_ne (ne_of_none h hfH) (s2 b o h)) hfH ?_⟩
      rw [upd_same, List.map_reverse]
theorem ok_draws {f : Addr} {fd : FuncData} (F : FnP K "_law_draws" s_law_draws f fd) (T : T0 K mg CJ CM CB CL CI) : FnOk P w K mg base CX0 1 f fd ["script", "count"] (spDraws K) := by
  refine Pp.FnOk.hide (ok_drawsL F T) fun vs H Q E h => ?_
  obtain ⟨a, ns, n, rfl, hS, hns, hn0, hn1, q⟩ := h
  refine ⟨a, ns, n, rfl, hS, hns, hn0, hn1, fun H' p ds s hp hd => ⟨p, ds, rfl, hp, hd, q _ p (Same.upd s hp) upd_same⟩⟩
end
end Pk

namespace Pk
open PySem PySem.Spec PyProof.Rows L2 TL Pp
/-! ### rows as lists -/
def RowL (H : Hp) (b : Addr) (row : List (Int × Int)) : Prop := ∃ ps : List Addr, H b = some (.lst (ps.map V.ref)) ∧ ps.length = row.length ∧ ∀ (i : Nat) p q, ps[i]? = some p → row[i]? = some q → H p = some (.tup [.int q.1, .int q.2])
def RowsL (H : Hp) (a : Addr) (rows : List (List (Int × Int))) : Prop := ∃ rs : List Addr, H a = some (.lst (rs.map V.ref)) ∧ rs.length = rows.length ∧ ∀ (i : Nat) b row, rs[i]? = some b → rows[i]? = some row → RowL H b row
theorem RowL.same {H H' : Hp} {b : Addr} {row : List (Int × Int)} (h : RowL H b row) (f : Same H H') : RowL H' b row := by
  obtain ⟨ps, h1, h2, h3⟩ := h
  exact ⟨ps, f _ _ h1, h2, fun i p q a b => f _ _ (h3 i p q a b)⟩
theorem RowsL.same {H H' : Hp} {b : Addr} {rows : List (List (Int × Int))} (h : RowsL H b rows) (f : Same H H') : RowsL H' b rows := by
  obtain ⟨ps, h1, h2, h3⟩ := h
  exact ⟨ps, f _ _ h1, h2, fun i p q a b => (h3 i p q a b).same f⟩
theorem RowL.upd {H : Hp} {b D : Addr} {row : List (Int × Int)} {l : List V} {o : HO} (h : RowL H b row) (hD : H D = some (.lst l)) (n : b ≠ D) : RowL (upd H D o) b row := by
  obtain ⟨ps, h1, h2, h3⟩ := h
  exact ⟨ps, keep_ne n h1, h2, fun i p q a b => keep_ne (ne_of (h3 i p q a b) hD fun z => nomatch z) (h3 i p q a b)⟩
theorem IsRow.upd {H : Hp} {b D : Addr} {row : List (Int × Int)} {l : List V} {o : HO} (h : IsRow H b row) (hD : H D = some (.lst l)) : IsRow (upd H D o) b row := by
  obtain ⟨ps, h1, h2, h3⟩ := h
  exact ⟨ps, keep_ne (ne_of h1 hD fun z => nomatch z) h1, h2, fun i p q a b => keep_ne (ne_of (h3 i p q a b) hD fun z => nomatch z) (h3 i p q a b)⟩
theorem snoc_at {α : Type} {l : List α} {x y : α} {i : Nat} (h : (l ++ [x])[i]? = some y) : (i < l.length ∧ l[i]? = some y) ∨ (i = l.length ∧ x = y) := by
  by_cases hi : i < l.length
  · rw [List.getElem?_append_left hi] at h
    exact .inl ⟨hi, h⟩
  · rw [List.getElem?_append_right (by omega)] at h
    have hz : i - l.length = 0 := by
      rcases Nat.eq_zero_or_pos (i - l.length) with h0 | h0
      · exact h0
      · rw [List.getElem?_eq_none (by simp; omega)] at h
        cases h
    rw [hz] at h
    exact .inr ⟨by omega, Option.some.inj h⟩
section
variable {P : Program} {w : World} {K : PySem.W.Frag} {mg : Str → Option Value} {base : Heap} {CJ CM CB CL CI : Addr}
/-- [pair[c] for pair in row] -/
theorem lc_sel {K' : PySem.W.Frag} {tl : TE} {σ : L2.St} {H : Hp} {Q : VK} {b : Addr} {row : List (Int × Int)} {j : Nat} {c : Int} {sel : Int × Int → Int} (hb : Val tl σ H (.ref b)) (hR : RowL H b row) (hz : row.length ≤ 10000) (hj : j < σ.length) (hc : ∀ q : Int × Int, atI [V.int q.1, V.int q.2] c = some (.int (sel q)))
    (k : ∀ D H', Same H H' → H D = none → H' D = some (.lst ((row.map sel).map V.int)) → Q (.ref D) H') : tLc (iList K' tl) (gName j) tYes (tOp (rIxT K') (tVar j) (tC (.int c))) [j] σ H Q := by
  refine hb _ ?_
  obtain ⟨ps, h1, h2, h3⟩ := hR
  refine ⟨b, rfl, ⟨_, SqL.of h1⟩, fun D hD => lc_list (xs := ps.map V.ref) (fun i H' => Same H H' ∧ H' D = some (.lst (((row.take i).map sel).map V.int))) ⟨Same.new hD, upd_same⟩ (fun i H' _ p => SqL.of (p.1 _ _ h1)) ?_ ?_⟩
  · rintro i x H' hx ⟨s, hd⟩
    obtain ⟨p, hp, rfl⟩ := map_at hx
    have hi : i < row.length := by
      have := (List.getElem?_eq_some_iff.mp hp).1
      omega
    have hq := h3 i p _ hp (List.getElem?_eq_getElem hi)
    refine ⟨?_, ?_⟩
    · show ((wipe σ [j]).set j (some (V.ref p))).set j none = (σ.set j none)
      show ((σ.set j none).set j (some (V.ref p))).set j none = σ.set j none
      rw [List.set_set, List.set_set]
    · refine ⟨.ref p, ?_, p, _, c, .int (sel row[i]), rfl, rfl, SqT.of (s _ _ hq), hc _, ?_⟩
      · show ((σ.set j none).set j (some (V.ref p)))[j]? = some (some (V.ref p))
        rw [List.set_set, List.getElem?_set_self hj]
      · refine ⟨_, hd, smallL _ (by rw [List.length_map, List.length_map, List.length_take]; omega), Same.upd s hD, ?_⟩
        rw [upd_same, take_more (List.getElem?_eq_getElem hi), List.map_append, List.map_append]
        rfl
  · rintro H' ⟨s, hd⟩
    rw [List.length_map, h2, List.take_length] at hd
    exact k D H' s hD hd
/-- tuple([(pair[0], pair[1]) for pair in row]) -/
theorem lc_pairs {K' : PySem.W.Frag} {tl : TE} {σ : L2.St} {H : Hp} {Q : VK} {b : Addr} {row : List (Int × Int)} {j : Nat} (hb : Val tl σ H (.ref b)) (hR : RowL H b row) (hz : row.length ≤ 10000) (hj : j < σ.length)
    (k : ∀ p H', Same H H' → H p = none → IsRow H' p row → Q (.ref p) H') :
    tCB (rTupOf K') (tCons (tLc (iList K' tl) (gName j) tYes (tTup (tCons (tOp (rIxT K') (tVar j) (tC (.int 0))) (tCons (tOp (rIxT K') (tVar j) (tC (.int 1))) tNil))) [j]) tNil) σ H Q := by
  refine hb _ ?_
  obtain ⟨ps, h1, h2, h3⟩ := hR
  refine ⟨b, rfl, ⟨_, SqL.of h1⟩, fun D hD => lc_list (xs := ps.map V.ref) (fun i H' => Same H H' ∧ ∃ qs : List Addr, H' D = some (.lst (qs.map V.ref)) ∧ qs.length = i ∧ ∀ (k : Nat) p q, qs[k]? = some p → row[k]? = some q → H' p = some (.tup [.int q.1, .int q.2])) ⟨Same.new hD, [], upd_same, rfl, fun k p q h => by simp at h⟩ (fun i H' _ p => SqL.of (p.1 _ _ h1)) ?_ ?_⟩
  · rintro i x H' hx ⟨s, qs, hd, hl, hq⟩
    obtain ⟨p, hp, rfl⟩ := map_at hx
    have hi : i < row.length := by
      have := (List.getElem?_eq_some_iff.mp hp).1
      omega
    have hq0 := h3 i p _ hp (List.getElem?_eq_getElem hi)
    have ev : ((σ.set j none).set j (some (V.ref p)))[j]? = some (some (V.ref p)) := by
      rw [List.set_set, List.getElem?_set_self hj]
    refine ⟨?_, ?_⟩
    · show ((σ.set j none).set j (some (V.ref p))).set j none = σ.set j none
      rw [List.set_set, List.set_set]
    · refine ⟨.ref p, ev, p, _, 0, .int row[i].1, rfl, rfl, SqT.of (s _ _ hq0), rfl, .ref p, ev, p, _, 1, .int row[i].2, rfl, rfl, SqT.of (s _ _ hq0), rfl, small 2, fun t ht => ?_⟩
      have htD : D ≠ t := ne_of_none hd ht
      refine ⟨_, keep_new ht hd, smallL _ (by rw [List.length_map]; omega), Same.upd (s.trans (Same.new ht)) hD, qs ++ [t], ?_, ?_, ?_⟩
      · rw [upd_same, List.map_append]
        rfl
      · rw [List.length_append, hl]
        rfl
      · intro k p' q' e1 e2
        rcases snoc_at e1 with ⟨_, e1⟩ | ⟨rfl, rfl⟩
        · have := hq k p' q' e1 e2
          exact keep_ne (ne_of this hd fun z => nomatch z) (keep_new ht this)
        · rw [hl, List.getElem?_eq_getElem hi] at e2
          cases e2
          exact keep_ne htD.symm upd_same
  · rintro H' ⟨s, qs, hd, hl, hq⟩
    refine ⟨D, _, rfl, .inl ⟨SqL.of hd, fun l hl' => ?_⟩⟩
    rw [List.length_map] at hl
    exact k l _ (s.trans (Same.new hl')) (s.free hl') ⟨qs, upd_same, by omega, fun k p q e1 e2 => keep_new hl' (hq k p q e1 e2)⟩
abbrev s_law_flat : Stmt := topS 19
abbrev N_law_flat : List Str := ["rows", "row"]
theorem sc_law_flat : FnScope N_law_flat ["rows"] (defScope s_law_flat) := ⟨rfl, rfl, rfl, by decide +kernel, rfl, by decide +kernel, by decide +kernel⟩
def spFlat : Sp := fun vs H Q _ => ∃ (a : Addr) (rows : List (List (Int × Int))), vs = [.ref a] ∧ RowsL H a rows ∧ rows.length ≤ 10000 ∧ ∀ (H' : Hp) (p : Addr), Same H H' → H p = none → RowsL H' p rows → Q (.ref p) H'
theorem ok_flat {f : Addr} {fd : FuncData} (F : FnP K "_law_flat" s_law_flat f fd) (T : T0 K mg CJ CM CB CL CI) : FnOk P w K mg base CX0 1 f fd ["rows"] spFlat := by
  refine F.ok sc_law_flat (fun vs H Q E h => ?_) (fun cdv A outer s H vs Q E hr h => ?_)
  · obtain ⟨a, rows, rfl, _⟩ := h
    rfl
  · obtain ⟨a, rows, rfl, ⟨rs, h1, h2, h3⟩, hz, q⟩ := h
    refine ⟨_, (pss_one (ps_ret (pe_lc (own := [("row", 1)]) rfl sc_law_flat.nd (pi_listK (K := K) rfl (pv 0)) (blkOk_by (own := [("row", 1)]) (N := N_law_flat) (sc := defScope s_law_flat) (by decide +kernel)) (fun _ _ _ _ _ => (pg_name (i := 1) sc_law_flat.nd rfl (Or.inl rfl))) (fun _ _ _ _ _ => pts_nil) (fun _ _ _ _ _ => (pe_callTy (call_listK (K := K) rfl) (by rfl) T.n_list (by decide +kernel) (pa_cons (pv 1) pa_nil)))))), ?_⟩
    refine z_rawr ?_
    refine ⟨.ref a, rfl, a, rfl, ⟨_, SqL.of h1⟩, fun D hD => lc_list (xs := rs.map V.ref) (fun i H' => Same H H' ∧ ∃ bs : List Addr, H' D = some (.lst (bs.map V.ref)) ∧ bs.length = i ∧ ∀ (k : Nat) b row, bs[k]? = some b → rows[k]? = some row → RowL H' b row ∧ b ≠ D) ⟨Same.new hD, [], upd_same, rfl, fun k p q h => by simp at h⟩ (fun i H' _ p => SqL.of (p.1 _ _ h1)) ?_ ?_⟩
    · rintro i x H' hx ⟨s, bs, hd, hl, hq⟩
      obtain ⟨p, hp, rfl⟩ := map_at hx
      have hi : i < rows.length := by
        have := (List.getElem?_eq_some_iff.mp hp).1
        omega
      obtain ⟨ps, g1, g2, g3⟩ := h3 i p _ hp (List.getElem?_eq_getElem hi)
      refine ⟨rfl, ?_⟩
      refine ⟨.ref p, rfl, p, _, rfl, .inl (SqL.of (s _ _ g1)), fun l hl' => ?_⟩
      have nlD : D ≠ l := ne_of_none hd hl'
      refine ⟨_, keep_new hl' hd, smallL _ (by rw [List.length_map]; omega), Same.upd (s.trans (Same.new hl')) hD, bs ++ [l], ?_, ?_, ?_⟩
      · rw [upd_same, List.map_append]
        rfl
      · rw [List.length_append, hl]
        rfl
      · intro k b row e1 e2
        rcases snoc_at e1 with ⟨_, e1⟩ | ⟨rfl, rfl⟩
        · obtain ⟨r1, r2⟩ := hq k b row e1 e2
          exact ⟨(r1.same (Same.new hl')).upd (keep_new hl' hd) r2, r2⟩
        · rw [hl, List.getElem?_eq_getElem hi] at e2
          cases e2
          refine ⟨RowL.upd (l := bs.map V.ref) ⟨ps, upd_same, g2, fun k p q e3 e4 => keep_new hl' (s _ _ (g3 k p q e3 e4))⟩ (keep_new hl' hd) nlD.symm, nlD.symm⟩
    · rintro H' ⟨s, bs, hd, hl, hq⟩
      rw [List.length_map] at hl
      exact q H' D s hD ⟨bs, hd, by omega, fun k b row e1 e2 => (hq k b row e1 e2).1⟩
end
end Pk

namespace Pk
open PySem PySem.Spec PyProof.Rows L2 TL Pp
section
variable {P : Program} {w : World} {K : PySem.W.Frag} {mg : Str → Option Value} {base : Heap} {CJ CM CB CL CI : Addr}
theorem mx0 (l : Int) (h : l ≤ 1000) : (if -l > 0 then -l else 0) ≤ 100000 ∨ True := .inr trivial
abbrev s_law_machine : Stmt := topS 20
abbrev N_law_machine : List Str := ["draws", "inputs", "outputs", "lead", "most", "count", "opening", "rows", "state", "row", "letter", "target", "k"]
theorem sc_law_machine : FnScope N_law_machine ["draws", "inputs", "outputs", "lead", "most"] (defScope s_law_machine) := ⟨rfl, rfl, rfl, by decide +kernel, rfl, by decide +kernel, by decide +kernel⟩
def spMach : Sp := fun vs H Q _ => ∃ (d : Addr) (inp out lead most : Int), vs = [.ref d, .int inp, .int out, .int lead, .int most] ∧ H d = some (DR d) ∧ 1 ≤ inp ∧ inp ≤ 100 ∧ 1 ≤ out ∧ out ≤ 100 ∧ -3 ≤ lead ∧ lead ≤ 2 ∧ 1 ≤ most ∧ most ≤ 100 ∧
  ∀ (H' : Hp) (p po pr : Addr) (M : Mac), Same H H' → H' p = some (.tup [.ref po, .ref pr]) → H' po = some (.lst (M.op.map V.int)) → RowsL H' pr M.rows → M.inp = inp → M.out = out → M.lead = lead → MOk M → (∀ x ∈ M.op, 0 ≤ x ∧ x < M.out) → (M.rows.length : Int) ≤ most → Q (.ref p) H'
theorem ok_mach {f : Addr} {fd : FuncData} (F : FnP K "_law_machine" s_law_machine f fd) (T : T0 K mg CJ CM CB CL CI) (f_law_take : FC P w K mg base CX0 1 "_law_take" spTake) : FnOk P w K mg base CX0 2 f fd ["draws", "inputs", "outputs", "lead", "most"] spMach := by
  refine F.ok sc_law_machine (fun vs H Q E h => ?_) (fun cdv A outer s H vs Q E hr h => ?_)
  · obtain ⟨d, inp, out, lead, most, rfl, _⟩ := h
    rfl
  · obtain ⟨d, inp, out, lead, most, rfl, hd, i1, i2, o1, o2, l1, l2, m1, m2, q⟩ := h
    refine ⟨_, (pss_cons (ps_set (i := 5) sc_law_machine.nd rfl (Or.inl rfl) (pe_op op_add pe_int (pe_cc f_law_take hr (by decide) (by rfl) (pa_cons (pv 0) (pa_cons (pv 4) pa_nil)))))
(pss_cons (ps_setLc (i := 6) (own := [("k", 12)]) rfl sc_law_machine.nd rfl rfl (sw_true rfl rfl rfl (by decide +kernel)) (pi_range1 rfl T.n_range (pa_cons (pe_callB (call_max2 rfl) (by rfl) T.n_max (by decide +kernel) (pa_cons pe_int (pa_cons (pe_un un_neg (pv 3)) pa_nil))) pa_nil)) (blkOk_by (own := [("k", 12)]) (N := N_law_machine) (sc := defScope s_law_machine) (by decide +kernel)) (fun _ _ _ _ _ => (pg_name (i := 12) sc_law_machine.nd rfl (Or.inl rfl))) (fun _ _ _ _ _ => pts_nil) (fun _ _ _ _ _ => (pe_cc f_law_take hr (by decide) (by rfl) (pa_cons (pv 0) (pa_cons (pv 2) pa_nil)))))
(pss_cons (ps_set (i := 7) sc_law_machine.nd rfl (Or.inl rfl) (pe_lst pa_nil))
(pss_cons (ps_for PassesOwn.leaving rfl (pi_range1 rfl T.n_range (pa_cons (pv 5) pa_nil)) (pg_name (i := 8) sc_law_machine.nd rfl (Or.inl rfl))
  (pss_cons (ps_set (i := 9) sc_law_machine.nd rfl (Or.inl rfl) (pe_lst pa_nil))
  (pss_cons (ps_for PassesOwn.leaving rfl (pi_range1 rfl T.n_range (pa_cons (pv 1) pa_nil)) (pg_name (i := 10) sc_law_machine.nd rfl (Or.inl rfl))
    (pss_cons (ps_set (i := 11) sc_law_machine.nd rfl (Or.inl rfl) (pe_cc f_law_take hr (by decide) (by rfl) (pa_cons (pv 0) (pa_cons (pv 5) pa_nil))))
    (pss_one (ps_expr (pe_bm PySem.F.plainAttrs_list PySem.F.slot_list_append PySem.F.type_list_append mt_append (pv 9) (pa_cons (pe_tup (pa_cons (pv 11) (pa_cons (pe_cc f_law_take hr (by decide) (by rfl) (pa_cons (pv 0) (pa_cons (pv 2) pa_nil))) pa_nil))) pa_nil))))))
  (pss_one (ps_expr (pe_bm PySem.F.plainAttrs_list PySem.F.slot_list_append PySem.F.type_list_append mt_append (pv 7) (pa_cons (pv 9) pa_nil)))))))
(pss_one (ps_ret (pe_tup (pa_cons (pv 6) (pa_cons (pv 7) pa_nil))))))))), ?_⟩
    obtain ⟨_, _, _, _, _, _, _, _, _, _, _, _, _, _, _, _, _, _, _, _, _, _, _, _⟩ := T
    -- count
    refine zs_raw ?_
    refine ⟨.ref d, rfl, .int most, rfl, d, most, rfl, hd, by omega, fun c0 c1 c2 => ⟨1, c0, rfl, rfl, ?_⟩⟩
    -- opening
    refine zs_raw ?_
    generalize hmx : (if -lead > 0 then -lead else (0 : Int)) = mx
    have hmx0 : 0 ≤ mx ∧ mx ≤ 3 := by
      rw [← hmx]
      split <;> omega
    refine ⟨.int lead, rfl, lead, rfl, 0, -lead, rfl, mx, by rw [hmx], by omega, by omega, fun D hD => ?_⟩
    have e0 : ((mx - 0).toNat : Int) = mx := by omega
    refine lc_range (lo := 0) (n := mx.toNat) (fun i H' => Same H H' ∧ ∃ os : List Int, H' D = some (.lst (os.map V.int)) ∧ os.length = i ∧ ∀ x ∈ os, 0 ≤ x ∧ x < out) ⟨Same.new hD, [], upd_same, rfl, fun x h => by cases h⟩ ?_ ?_
    · rintro i H' hi ⟨s, os, ho, hl, hx⟩
      refine ⟨rfl, ?_⟩
      refine ⟨.ref d, rfl, .int out, rfl, d, out, rfl, s _ _ hd, by omega, fun r r1 r2 => ⟨_, ho, smallL _ (by rw [List.length_map]; omega), Same.upd s hD, os ++ [r], ?_, ?_, ?_⟩⟩
      · rw [upd_same, List.map_append]
        rfl
      · rw [List.length_append, hl]
        rfl
      · intro x hm
        rcases List.mem_append.mp hm with h | h
        · exact hx x h
        · rw [List.mem_singleton.mp h]
          exact ⟨r1, r2⟩
    rintro H1 ⟨s1, os, ho, hol, hos⟩
    dsimp only
    -- rows
    refine zs_raw ?_
    refine ⟨small 0, fun R hR => ?_⟩
    have hDR : D ≠ R := ne_of_none ho hR
    have sR : Same H (upd H1 R (.lst [])) := s1.trans (Same.new hR)
    have hoR : (upd H1 R (.lst [])) D = some (.lst (os.map V.int)) := keep_new hR ho
    have hRR : (upd H1 R (.lst [])) R = some (.lst ([] : List V)) := upd_same
    have hR0 : H R = none := s1.free hR
    revert sR hoR hRR
    generalize upd H1 R (.lst []) = H2
    intro sR hoR hRR
    refine zs_forR (n := 1 + c0) (by k_places) (by omega) (by omega) (fun i σ H' => ∃ (y8 y9 y10 y11 : Option V) (rs : List Addr) (rows : List (List (Int × Int))), σ = [some (.ref d), some (.int inp), some (.int out), some (.int lead), some (.int most), some (.int (1 + c0)), some (.ref D), some (.ref R), y8, y9, y10, y11, none] ∧
      Same H H' ∧ H' D = some (.lst (os.map V.int)) ∧ H' R = some (.lst (rs.map V.ref)) ∧ rs.length = i ∧ rows.length = i ∧ (∀ (k : Nat) b row, rs[k]? = some b → rows[k]? = some row → RowL H' b row ∧ b ≠ R ∧ (row.length : Int) = inp ∧ ∀ q ∈ row, 0 ≤ q.1 ∧ q.1 < 1 + c0 ∧ 0 ≤ q.2 ∧ q.2 < out))
      ⟨none, none, none, none, [], [], rfl, sR, hoR, hRR, rfl, rfl, fun k b row h => by simp at h⟩ ?_ ?_
    · rintro i σ' H' hi ⟨y8, y9, y10, y11, rs, rows, rfl, s2, hD2, hR2, hl1, hl2, hrr⟩
      refine zs_raw ?_
      refine ⟨small 0, fun W hW => ?_⟩
      have hW0 : H W = none := s2.free hW
      have nRW : R ≠ W := ne_of_none hR2 hW
      have nDW : D ≠ W := ne_of_none hD2 hW
      have nbW : ∀ (k : Nat) b, rs[k]? = some b → b ≠ W := fun k b e => by
        have hk : k < rows.length := by
          have := (List.getElem?_eq_some_iff.mp e).1
          omega
        obtain ⟨⟨ps, g1, _⟩, _⟩ := hrr k b _ e (List.getElem?_eq_getElem hk)
        exact ne_of_none g1 hW
      refine zs_forR (n := inp) (by k_places) (by omega) (by omega) (fun j σ H'' => ∃ (y10 y11 : Option V) (ps : List Addr) (row : List (Int × Int)), σ = [some (.ref d), some (.int inp), some (.int out), some (.int lead), some (.int most), some (.int (1 + c0)), some (.ref D), some (.ref R), some (.int (i : Int)), some (.ref W), y10, y11, none] ∧
        Same H H'' ∧ Pp.Fr W H' H'' ∧ H'' W = some (.lst (ps.map V.ref)) ∧ ps.length = j ∧ row.length = j ∧ (∀ (k : Nat) p q, ps[k]? = some p → row[k]? = some q → H'' p = some (.tup [.int q.1, .int q.2])) ∧ ∀ q ∈ row, 0 ≤ q.1 ∧ q.1 < 1 + c0 ∧ 0 ≤ q.2 ∧ q.2 < out)
        ⟨y10, y11, [], [], rfl, s2.trans (Same.new hW), Pp.Fr.of (Same.new hW), upd_same, rfl, rfl, fun k p q h => by simp at h, fun q h => by cases h⟩ ?_ ?_
      · rintro j σ' H'' hj ⟨y10, y11, ps, row, rfl, s3, f3, hW3, hp1, hp2, hpt, hrng⟩
        refine zs_raw ?_
        refine ⟨.ref d, rfl, .int (1 + c0), rfl, d, 1 + c0, rfl, s3 _ _ hd, by omega, fun t t1 t2 => ?_⟩
        refine z_rawd ?_
        refine ⟨.ref W, rfl, .inl ⟨rfl, _, SqL.of hW3⟩, .int t, rfl, .ref d, rfl, .int out, rfl, d, out, rfl, s3 _ _ hd, by omega, fun e e1 e2 => ⟨small 2, fun p hp => ?_⟩⟩
        have npW : W ≠ p := ne_of_none hW3 hp
        refine ⟨W, _, _, rfl, rfl, keep_new hp hW3, smallL _ (by rw [List.length_map]; omega), ?_⟩
        refine ⟨_, _, ps ++ [p], row ++ [(t, e)], rfl, ?_, ?_, ?_, ?_, ?_, ?_, ?_⟩
        · exact fun b o h => keep_ne (ne_of_none h hW0) (keep_new hp (s3 b o h))
        · exact fun b o h n => keep_ne n (keep_new hp (f3 b o h n))
        · rw [upd_same, List.map_append]
          rfl
        · rw [List.length_append, hp1]
          rfl
        · rw [List.length_append, hp2]
          rfl
        · intro k p' q' g1 g2
          rcases snoc_at g1 with ⟨hk, g1⟩ | ⟨rfl, rfl⟩
          · rw [List.getElem?_append_left (by omega)] at g2
            have := hpt k p' q' g1 g2
            exact keep_ne (ne_of this hW3 fun z => nomatch z) (keep_new hp this)
          · rcases snoc_at g2 with ⟨hk, _⟩ | ⟨_, rfl⟩
            · omega
            · exact keep_ne npW.symm upd_same
        · intro q' hm
          rcases List.mem_append.mp hm with h | h
          · exact hrng q' h
          · rw [List.mem_singleton.mp h]
            exact ⟨t1, t2, e1, e2⟩
      · rintro σ' H'' ⟨y10, y11, ps, row, rfl, s3, f3, hW3, hp1, hp2, hpt, hrng⟩
        refine z_rawd ?_
        have hR3 := f3 _ _ hR2 nRW
        refine ⟨.ref R, rfl, .inl ⟨rfl, _, SqL.of hR3⟩, .ref W, rfl, R, _, _, rfl, rfl, hR3, smallL _ (by rw [List.length_map]; omega), ?_⟩
        have hrow : RowL H'' W row := ⟨ps, hW3, by omega, hpt⟩
        refine ⟨_, _, _, _, rs ++ [W], rows ++ [row], rfl, ?_, ?_, ?_, ?_, ?_, ?_⟩
        · exact fun b o h => keep_ne (ne_of_none h hR0) (s3 b o h)
        · exact keep_ne hDR (f3 _ _ hD2 nDW)
        · rw [upd_same, List.map_append]
          rfl
        · rw [List.length_append, hl1]
          rfl
        · rw [List.length_append, hl2]
          rfl
        · intro k b row' g1 g2
          rcases snoc_at g1 with ⟨hk, g1⟩ | ⟨rfl, rfl⟩
          · rw [List.getElem?_append_left (by omega)] at g2
            obtain ⟨⟨ps', r1, r2, r3⟩, r4, r5, r6⟩ := hrr k b row' g1 g2
            have hb3 : RowL H'' b row' := ⟨ps', f3 _ _ r1 (nbW k b g1), r2, fun i p q a c => f3 _ _ (r3 i p q a c) (ne_of_none (r3 i p q a c) hW)⟩
            exact ⟨hb3.upd hR3 r4, r4, r5, r6⟩
          · rcases snoc_at g2 with ⟨hk, _⟩ | ⟨_, rfl⟩
            · omega
            · exact ⟨hrow.upd hR3 nRW.symm, nRW.symm, by omega, hrng⟩
    · rintro σ' H' ⟨y8, y9, y10, y11, rs, rows, rfl, s2, hD2, hR2, hl1, hl2, hrr⟩
      refine z_rawr ?_
      refine ⟨.ref D, rfl, .ref R, rfl, small 2, fun p hp => ?_⟩
      refine q _ p D R ⟨inp, out, lead, os, rows⟩ (s2.trans (Same.new hp)) upd_same (keep_new hp hD2) (RowsL.same ⟨rs, hR2, by show rs.length = rows.length; omega, fun k b row g1 g2 => (hrr k b row g1 g2).1⟩ (Same.new hp)) rfl rfl rfl ?_ hos (by show (rows.length : Int) ≤ most; omega)
      refine ⟨i1, by show inp ≤ 1000; omega, o1, l1, l2, ?_, by show 1 ≤ rows.length; omega, by show rows.length ≤ 1000; omega, ?_, ?_⟩
      · show (os.length : Int) = if -lead > 0 then -lead else 0
        rw [hmx]
        omega
      · intro k row g
        have hk : k < rs.length := by
          have : k < rows.length := (List.getElem?_eq_some_iff.mp g).1
          omega
        exact (hrr k _ row (List.getElem?_eq_getElem hk) g).2.2.1
      · intro k j row q' g g2
        have hk : k < rs.length := by
          have : k < rows.length := (List.getElem?_eq_some_iff.mp g).1
          omega
        have := (hrr k _ row (List.getElem?_eq_getElem hk) g).2.2.2 q' (List.mem_of_getElem? g2)
        refine ⟨this.1, ?_, this.2.2.1, this.2.2.2⟩
        show q'.1 < (rows.length : Int)
        omega
abbrev s_Machine_init : Stmt := inClass (topS 14) 0
abbrev N_Machine_init : List Str := ["self", "inputs", "outputs", "lead", "opening", "rows", "valid", "row", "pair"]
theorem sc_Machine_init : FnScope N_Machine_init ["self", "inputs", "outputs", "lead", "opening", "rows"] (defScope s_Machine_init) := ⟨rfl, rfl, rfl, by decide +kernel, rfl, by decide +kernel, by decide +kernel⟩
def spMInit (K : PySem.W.Frag) (CM CI : Addr) : Sp := fun vs H Q E => ∃ (x dx a b : Addr) (M : Mac), vs = [.ref x, .int M.inp, .int M.out, .int M.lead, .ref a, .ref b] ∧ H x = some (.ins CM dx []) ∧ SqL K H a (M.op.map V.int) ∧ RowsL H b M.rows ∧ MOk M ∧ (∀ x ∈ M.op, 0 ≤ x ∧ x < M.out) ∧
  ∀ H', Pp.Fr x H H' → IsMac CM H' x M → Q .non H'
theorem call_go {sp : Sp} {dvs : List V} {E : XK} {t : TA} {σ : L2.St} {H : Hp} {Q : VK} (h : t σ H fun vs H1 => sp (vs ++ dvs) H1 Q E) : tCall sp dvs E t σ H Q := h
theorem cons_go {ta : TE} {tr : TA} {σ : L2.St} {H : Hp} {Q : List V → Hp → Prop} (h : ta σ H fun x H1 => tr σ H1 fun xs H2 => Q (x :: xs) H2) : tCons ta tr σ H Q := h
theorem allBelow_ok {ns : List Int} {lim : Int} (h : ∀ x ∈ ns, 0 ≤ x ∧ x < lim) : allBelow ns lim = true := by
  unfold allBelow
  rw [List.all_eq_true]
  intro x hx
  obtain ⟨h0, h1⟩ := h x hx
  rw [Bool.not_eq_true', Bool.or_eq_false_iff, decide_eq_false_iff_not, decide_eq_false_iff_not]
  omega
theorem ok_minit {f : Addr} {fd : FuncData} (F : FunD K "__init__" "Machine.__init__" (defArgs s_Machine_init) (defBody s_Machine_init) (defScope s_Machine_init) [] [] f fd) (T : T0 K mg CJ CM CB CL CI) (f_all_below : FC P w K mg base CX0 1 "all_below" (spAllBelow K)) : FnOk P w K mg base (L2.CX P w) 2 f fd ["self", "inputs", "outputs", "lead", "opening", "rows"] (spMInit K CM CI) := by
  refine F.ok sc_Machine_init (fun vs H Q E h => ?_) (fun cdv A outer s H vs Q E hr h => ?_)
  · obtain ⟨x, dx, a, b, M, rfl, _⟩ := h
    rfl
  · obtain ⟨x, dx, a, b, M, rfl, hx, ha, ⟨rs, hb, hrl, hrr⟩, mk, opl, q⟩ := h
    refine ⟨_, (pss_cons (ps_set (i := 6) sc_Machine_init.nd rfl (Or.inl rfl) (pe_and (pe_cmpR op_ge (pv 1) pe_int (nomark _)) (pe_and (pe_cmpR op_ge (pv 2) pe_int (nomark _)) (pe_one (pe_chain op_le op_le (pe_un un_neg pe_int) (pv 3) pe_int)))))
(pss_cons (ps_set (i := 6) sc_Machine_init.nd rfl (Or.inl rfl) (pe_and (pv 6) (pe_and (pe_cmpR op_eq (pe_callB (call_lenK (K := K) rfl) (by rfl) T.n_len PySem.boot_len (pa_cons (pv 4) pa_nil)) (pe_callB (call_max2 rfl) (by rfl) T.n_max (by decide +kernel) (pa_cons pe_int (pa_cons (pe_un un_neg (pv 3)) pa_nil))) (nomark _)) (pe_one (pe_cmpR op_ge (pe_callB (call_lenK (K := K) rfl) (by rfl) T.n_len PySem.boot_len (pa_cons (pv 5) pa_nil)) pe_int (nomark _))))))
(pss_cons (ps_set (i := 6) sc_Machine_init.nd rfl (Or.inl rfl) (pe_and (pv 6) (pe_one (pe_cc f_all_below hr (by decide) (by rfl) (pa_cons (pv 4) (pa_cons (pv 2) pa_nil))))))
(pss_cons (ps_for PassesOwn.leaving rfl (pi_listK (K := K) rfl (pv 5)) (pg_name (i := 7) sc_Machine_init.nd rfl (Or.inl rfl))
  (pss_cons (ps_set (i := 6) sc_Machine_init.nd rfl (Or.inl rfl) (pe_and (pv 6) (pe_one (pe_cmpR op_eq (pe_callB (call_lenK (K := K) rfl) (by rfl) T.n_len PySem.boot_len (pa_cons (pv 7) pa_nil)) (pv 1) (nomark _)))))
  (pss_cons (ps_set (i := 6) sc_Machine_init.nd rfl (Or.inl rfl) (pe_and (pv 6) (pe_one (pe_cc f_all_below hr (by decide) (by rfl) (pa_cons (pe_lc (own := [("pair", 8)]) rfl sc_Machine_init.nd (pi_listK (K := K) rfl (pv 7)) (blkOk_by (own := [("pair", 8)]) (N := N_Machine_init) (sc := defScope s_Machine_init) (by decide +kernel)) (fun _ _ _ _ _ => (pg_name (i := 8) sc_Machine_init.nd rfl (Or.inl rfl))) (fun _ _ _ _ _ => pts_nil) (fun _ _ _ _ _ => (pe_ix (ix_tupK (K := K) rfl) (pv 8) pe_int (fun _ _ => rfl)))) (pa_cons (pe_callB (call_lenK (K := K) rfl) (by rfl) T.n_len PySem.boot_len (pa_cons (pv 5) pa_nil)) pa_nil))))))
  (pss_one (ps_set (i := 6) sc_Machine_init.nd rfl (Or.inl rfl) (pe_and (pv 6) (pe_one (pe_cc f_all_below hr (by decide) (by rfl) (pa_cons (pe_lc (own := [("pair", 8)]) rfl sc_Machine_init.nd (pi_listK (K := K) rfl (pv 7)) (blkOk_by (own := [("pair", 8)]) (N := N_Machine_init) (sc := defScope s_Machine_init) (by decide +kernel)) (fun _ _ _ _ _ => (pg_name (i := 8) sc_Machine_init.nd rfl (Or.inl rfl))) (fun _ _ _ _ _ => pts_nil) (fun _ _ _ _ _ => (pe_ix (ix_tupK (K := K) rfl) (pv 8) pe_int (fun _ _ => rfl)))) (pa_cons (pv 2) pa_nil))))))))))
(pss_cons (ps_if (pt_not (pt_val (pv 6)))
  (pss_one (ps_raise rfl (takes_of rfl rfl rfl rfl) (pmk_x T.x_InvalidMachine rfl)))
  pss_nil)
(pss_cons (ps_fld (pv 0) (pv 1) rfl)
(pss_cons (ps_fld (pv 0) (pv 2) rfl)
(pss_cons (ps_fld (pv 0) (pv 3) rfl)
(pss_cons (ps_fld (pv 0) (pe_callTy (call_tupleK (K := K) rfl) (by rfl) T.n_tuple (by decide +kernel) (pa_cons (pv 4) pa_nil)) rfl)
(pss_one (ps_fld (pv 0) (pe_callTy (call_tupleK (K := K) rfl) (by rfl) T.n_tuple (by decide +kernel) (pa_cons (pe_lc (own := [("row", 7)]) rfl sc_Machine_init.nd (pi_listK (K := K) rfl (pv 5)) (blkOk_by (own := [("row", 7)]) (N := N_Machine_init) (sc := defScope s_Machine_init) (by decide +kernel)) (fun _ _ _ _ _ => (pg_name (i := 7) sc_Machine_init.nd rfl (Or.inl rfl))) (fun _ _ _ _ _ => pts_nil) (fun _ _ _ _ _ => (pe_callTy (call_tupleK (K := K) rfl) (by rfl) T.n_tuple (by decide +kernel) (pa_cons (pe_lc (own := [("pair", 8)]) rfl sc_Machine_init.nd (pi_listK (K := K) rfl (pv 7)) (blkOk_by (own := [("pair", 8)]) (by rfl)) (fun _ _ _ _ _ => (pg_name (i := 8) sc_Machine_init.nd rfl (Or.inl rfl))) (fun _ _ _ _ _ => pts_nil) (fun _ _ _ _ _ => (pe_tup (pa_cons (pe_ix (ix_tupK (K := K) rfl) (pv 8) pe_int (fun _ _ => rfl)) (pa_cons (pe_ix (ix_tupK (K := K) rfl) (pv 8) pe_int (fun _ _ => rfl)) pa_nil))))) pa_nil)))) pa_nil)) rfl))))))))))), ?_⟩
    obtain ⟨_, _, _, _, _, _, _, _, _, _, _, _, _, _, _, _, _, _, _, _, _, _, _, _⟩ := T
    have hbq : SqL K H b (rs.map V.ref) := SqL.of hb
    have k1 : (decide (1 ≤ M.inp) && (decide (1 ≤ M.out) && (decide (-3 ≤ M.lead) && decide (M.lead ≤ 2)))) = true := by
      rw [decide_eq_true mk.i1, decide_eq_true mk.o1, decide_eq_true mk.l1, decide_eq_true mk.l2] <;> rfl
    refine' zs_set (va_to (w := V.bl true) ?a1 ?b1) ?_
    case a1 => k_upd
    case b1 => exact congrArg V.bl k1
    have k2 : (true && (decide (V.int ((M.op.map V.int).length : Int) = V.int (if -M.lead > 0 then -M.lead else 0)) && decide (1 ≤ ((rs.map V.ref).length : Int)))) = true := by
      rw [List.length_map, mk.ol, decide_eq_true rfl, List.length_map, hrl]
      have := mk.r1
      rw [decide_eq_true (by omega)] <;> rfl
    refine' zs_set (va_to (w := V.bl true) ?a2 ?b2) ?_
    case a2 => k_upd
    case b2 => exact congrArg V.bl k2
    have r1 := mk.r1
    have r2 := mk.r2
    have i2 := mk.i2
    have s3 : SVal (spAllBelow K) ([.ref a, .int M.out] ++ []) H (.bl true) := fun Q E q => ⟨a, M.op, M.out, rfl, ha, by rw [allBelow_ok opl]; exact q⟩
    refine' zs_set (va_to (w := V.bl true) ?a3 ?b3) ?_
    case a3 => k_upd
    case b3 => rfl
    refine zs_forL (xs := rs.map V.ref) (by k_upd) hbq (fun i σ H' => ∃ y7 : Option V, σ = [some (.ref x), some (.int M.inp), some (.int M.out), some (.int M.lead), some (.ref a), some (.ref b), some (.bl true), y7, none] ∧ Same H H') ⟨none, rfl, Same.refl H⟩ ?_ ?_ ?_
    · rintro i σ' H' _ ⟨_, _, s⟩
      exact s.seq hbq
    · rintro i v σ' H' hv ⟨y7, rfl, s⟩
      obtain ⟨rb, hrb, rfl⟩ := map_at hv
      have hi : i < M.rows.length := by
        have := (List.getElem?_eq_some_iff.mp hrb).1
        omega
      have hrow := List.getElem?_eq_getElem hi
      generalize M.rows[i] = row at hrow
      have hR := (hrr i rb row hrb hrow).same s
      have hlen := mk.rl i row hrow
      have hz : row.length ≤ 10000 := by omega
      obtain ⟨ps, p1, p2, p3⟩ := id hR
      have k4 : (true && decide (V.int ((ps.map V.ref).length : Int) = V.int M.inp)) = true := by
        rw [List.length_map, p2, hlen, decide_eq_true rfl] <;> rfl
      refine' zs_set (va_to (w := V.bl true) ?a4 ?b4) ?_
      case a4 => k_upd
      case b4 => exact congrArg V.bl k4
      refine zs_raw ?_
      refine ⟨.bl true, rfl, true, rfl, iteT ?_⟩
      refine call_go (cons_go ?_)
      refine lc_sel (row := row) (sel := Prod.fst) (b := rb) ?hb hR hz ?hj ?hc (fun D1 H1 s1 hD1 hl1 => ?_)
      case hb => exact fun _ q => ⟨_, rfl, q⟩
      case hj =>
        show 8 < 9
        decide
      case hc => exact fun q => rfl
      refine ⟨.ref b, rfl, b, _, rfl, .inl (SqL.of (s1 _ _ (s _ _ hb))), D1, row.map Prod.fst, ((rs.map V.ref).length : Int), rfl, SqL.of hl1, ?_⟩
      rw [allBelow_ok (by
        intro y hy
        obtain ⟨q', hq', rfl⟩ := List.mem_map.mp hy
        obtain ⟨k, hk, e⟩ := List.mem_iff_getElem.mp hq'
        have := mk.rp i k row q' hrow (by rw [List.getElem?_eq_getElem hk, e])
        rw [List.length_map, hrl]
        exact ⟨this.1, this.2.1⟩)]
      refine z_raw ?_
      refine ⟨.bl true, rfl, true, rfl, iteT ?_⟩
      refine call_go (cons_go ?_)
      refine lc_sel (row := row) (sel := Prod.snd) (b := rb) ?hb (hR.same s1) hz ?hj ?hc (fun D2 H2 s2 hD2 hl2 => ?_)
      case hb => exact fun _ q => ⟨_, rfl, q⟩
      case hj =>
        show 8 < 9
        decide
      case hc => exact fun q => rfl
      refine ⟨.int M.out, rfl, D2, row.map Prod.snd, M.out, rfl, SqL.of hl2, ?_⟩
      rw [allBelow_ok (by
        intro y hy
        obtain ⟨q', hq', rfl⟩ := List.mem_map.mp hy
        obtain ⟨k, hk, e⟩ := List.mem_iff_getElem.mp hq'
        have := mk.rp i k row q' hrow (by rw [List.getElem?_eq_getElem hk, e])
        exact ⟨this.2.2.1, this.2.2.2⟩)]
      exact ⟨_, rfl, (s.trans s1).trans s2⟩
    · rintro σ' H' ⟨y7, rfl, s⟩
      refine zs_when (b := false) (an_not (a := true) (an_B (fun _ q => ⟨_, rfl, q⟩))) (fun e => nomatch e) (fun _ => ?_)
      have hx' := s _ _ hx
      have ha' := s.seq ha
      have nax : ∀ o, H' a = some o → a ≠ x ∨ True := fun _ _ => .inr trivial
      refine zs_fld (y := .int M.inp) (by k_upd) (by k_upd) hx' (by assumption) (by assumption) (by show 0 < 1000; decide) ?_
      refine zs_fld (y := .int M.out) (by k_upd) (by k_upd) upd_same (by assumption) (by assumption) (by show 1 < 1000; decide) ?_
      refine zs_fld (y := .int M.lead) (by k_upd) (by k_upd) upd_same (by assumption) (by assumption) (by show 2 < 1000; decide) ?_
      rw [upd_upd, upd_upd]
      refine zs_fldraw ?_
      have haS : SqL K (upd H' x (.ins CM dx (putF "lead" (.int M.lead) (putF "outputs" (.int M.out) (putF "inputs" (.int M.inp) []))))) a (M.op.map V.int) := by
        rcases ha' with (h | ⟨o, h⟩) | h
        · exact .inl (.inl (keep_ne (ne_of h hx' fun z => nomatch z) h))
        · exact .inl (.inr ⟨o, keep_ne (ne_of h hx' fun z => nomatch z) h⟩)
        · exact .inr h
      refine ⟨.ref a, rfl, a, _, rfl, .inl ⟨haS, fun po hpo => ?_⟩⟩
      have nxpo : x ≠ po := fun z => by rw [← z, upd_same] at hpo; cases hpo
      refine ⟨.ref x, rfl, x, CM, dx, _, rfl, keep_new hpo upd_same, by assumption, by assumption, by show 3 < 1000; decide, ?_⟩
      generalize hG : upd (upd (upd H' x _) po _) x _ = G
      have hpo0 : H' po = none := by
        rw [upd_ne nxpo.symm] at hpo
        exact hpo
      have gx : G x = some (.ins CM dx (putF "opening" (.ref po) (putF "lead" (.int M.lead) (putF "outputs" (.int M.out) (putF "inputs" (.int M.inp) []))))) := by
        rw [← hG]
        exact upd_same
      have gpo : G po = some (.tup (M.op.map V.int)) := by
        rw [← hG]
        exact keep_ne nxpo.symm upd_same
      have gf : Pp.Fr x H' G := fun bb o h n => by
        rw [← hG]
        exact keep_ne n (keep_new hpo (keep_ne n h))
      have nbx : b ≠ x := ne_of hb hx fun z => nomatch z
      have gb := gf _ _ (s _ _ hb) nbx
      refine z_fldraw ?_
      refine ⟨.ref b, rfl, b, rfl, ⟨_, SqL.of gb⟩, fun D hD => lc_list (xs := rs.map V.ref) (fun i H2 => Same G H2 ∧ ∃ bs : List Addr, H2 D = some (.lst (bs.map V.ref)) ∧ bs.length = i ∧ ∀ (k : Nat) b' row, bs[k]? = some b' → M.rows[k]? = some row → IsRow H2 b' row) ⟨Same.new hD, [], upd_same, rfl, fun k p q h => by simp at h⟩ (fun i H2 _ p => SqL.of (p.1 _ _ gb)) ?_ ?_⟩
      · rintro i v H2 hv ⟨s2, bs, hd, hl, hq⟩
        obtain ⟨rb, hrb, rfl⟩ := map_at hv
        have hi : i < M.rows.length := by
          have := (List.getElem?_eq_some_iff.mp hrb).1
          omega
        have hrow := List.getElem?_eq_getElem hi
        generalize M.rows[i] = row at hrow
        have hR0 := (hrr i rb row hrb hrow).same s
        have hR : RowL H2 rb row := by
          obtain ⟨ps, p1, p2, p3⟩ := hR0
          exact ⟨ps, s2 _ _ (gf _ _ p1 (ne_of p1 hx' fun z => nomatch z)), p2, fun k p q e1 e2 => s2 _ _ (gf _ _ (p3 k p q e1 e2) (ne_of (p3 k p q e1 e2) hx' fun z => nomatch z))⟩
        have hlen := mk.rl i row hrow
        refine ⟨rfl, ?_⟩
        refine lc_pairs (row := row) (b := rb) ?hb hR (by omega) ?hj (fun p H3 s3 hp hrowp => ?_)
        case hb => exact fun _ q => ⟨_, rfl, q⟩
        case hj =>
          show 8 < 9
          decide
        have hd3 := s3 _ _ hd
        refine ⟨_, hd3, smallL _ (by rw [List.length_map]; omega), Same.upd (s2.trans s3) hD, bs ++ [p], ?_, ?_, ?_⟩
        · rw [upd_same, List.map_append]
          rfl
        · rw [List.length_append, hl]
          rfl
        · intro k b' row' e1 e2
          rcases snoc_at e1 with ⟨_, e1⟩ | ⟨rfl, rfl⟩
          · exact ((hq k b' row' e1 e2).same s3).upd hd3
          · rw [hl, hrow] at e2
            cases e2
            exact hrowp.upd hd3
      · rintro H2 ⟨s2, bs, hd, hl, hq⟩
        rw [List.length_map] at hl
        refine ⟨D, _, rfl, .inl ⟨SqL.of hd, fun pr hpr => ?_⟩⟩
        have gx2 := s2 _ _ gx
        refine ⟨.ref x, rfl, x, CM, dx, _, rfl, keep_new hpr gx2, by assumption, by assumption, by show 4 < 1000; decide, ?_⟩
        have nprx : x ≠ pr := ne_of_none gx2 hpr
        refine q _ (fun bb o h n => keep_ne n (keep_new hpr (s2 _ _ (gf _ _ (s _ _ h) n)))) ⟨dx, po, pr, bs, upd_same, keep_ne nxpo.symm (keep_new hpr (s2 _ _ gpo)), keep_ne nprx.symm upd_same, by omega, fun k b' row' e1 e2 => ?_⟩
        exact ((hq k b' row' e1 e2).same (Same.new hpr)).fr (keep_new hpr gx2) (Pp.Fr.upd Pp.Fr.refl)
end
end Pk

namespace Pk
open PySem PySem.Spec PyProof.Rows L2 TL Pp PySem.StrLaws
/-! ### the plain law of recovery -/
theorem rdNum_num (n : Nat) : rdNum (numL n) = some n := by
  have hd : ∀ n : Nat, 10 ≤ n → (numL n).head? ≠ some 48 := by
    intro n
    induction n using Nat.strongRecOn with
    | _ n ih =>
      intro h
      rw [numL_step h]
      by_cases h2 : n / 10 < 10
      · rw [numL_lt h2]
        show some (48 + n / 10) ≠ some 48
        intro e
        have := Option.some.inj e
        omega
      · have := ih (n / 10) (by omega) (by omega)
        rw [List.head?_append]
        cases e : (numL (n / 10)).head? with
        | none => exact absurd (List.head?_eq_none_iff.mp e) (numL_ne _)
        | some c => rw [e] at this; exact this
  have hb : (decide (numL n = []) || (decide ((numL n).head? = some 48) && decide (1 < (numL n).length))) = false := by
    rw [decide_eq_false (numL_ne n), Bool.false_or]
    by_cases h : n < 10
    · rw [numL_lt h]
      exact Bool.and_false _
    · rw [decide_eq_false (hd n (by omega))]
      rfl
  have ha : (numL n).all isDig = true := by
    rw [List.all_eq_true]
    intro c hc
    have := numL_digits n c hc
    unfold isDig
    rw [Bool.and_eq_true, decide_eq_true_eq, decide_eq_true_eq]
    exact this
  unfold rdNum
  rw [hb, if_neg Bool.false_ne_true, if_pos ha, numL_val]
theorem tl_sI {i : Int} (h : 0 ≤ i) : tl (sI i) = numL i.toNat := by
  obtain ⟨n, rfl⟩ : ∃ n : Nat, i = (n : Int) := ⟨i.toNat, by omega⟩
  exact sI_num n
theorem joinNL_app (a b : List (List Nat)) : joinNL (a ++ b) = joinNL a ++ joinNL b := by
  unfold joinNL
  rw [List.map_append, List.flatten_append]
theorem joinNL_cons (a : List Nat) (b : List (List Nat)) : joinNL (a :: b) = a ++ ([10] ++ joinNL b) := by
  show (a ++ [10]) ++ joinNL b = _
  rw [List.append_assoc]
def hdL (n : Nat) : List Nat := tl ("journal " : Str) ++ numL n
def heL (n : Nat) : List Nat := tl ("heard " : Str) ++ numL n
def stL (a b : Nat) : List Nat := tl ("state " : Str) ++ (numL a ++ ([32] ++ numL b))
def stLs (M : Mac) (J : Jn) (l : Int) : List (List Nat) := if (J.heard + 1).fmod J.sp = 0 then [stL (J.heard + 1).toNat (nxt M J.state l).1.toNat] else []
def body (M : Mac) : Jn → List Int → List (List Nat)
  | _, [] => []
  | J, l :: r => heL l.toNat :: (stLs M J l ++ body M (hear M J l) r)
def runJ (M : Mac) : Jn → List Int → Jn
  | J, [] => J
  | J, l :: r => runJ M (hear M J l) r
theorem runJ_snoc (M : Mac) : ∀ (ls : List Int) (J : Jn) (l : Int), runJ M J (ls ++ [l]) = hear M (runJ M J ls) l
  | [], _, _ => rfl
  | a :: r, J, l => runJ_snoc M r (hear M J a) l
theorem hear_text {M : Mac} {J : Jn} {l : Int} (mk : MOk M) (o : JOk M J) (l0 : 0 ≤ l) (l1 : l < M.inp) : tl (hear M J l).text = tl J.text ++ joinNL (heL l.toNat :: stLs M J l) := by
  obtain ⟨row, e1, e2⟩ := nxt_at mk o l0 l1
  have r := mk.rp _ _ _ _ e1 e2
  have h0 := o.h0
  have hx : ∀ (b : Bool) (A B : Str) , tl (if b then A else B) = if b then tl A else tl B := fun b A B => by cases b <;> rfl
  show tl (if (J.heard + 1).fmod J.sp = 0 then J.text ++ (("heard " : Str) ++ sI l ++ ("\n" : Str)) ++ (("state " : Str) ++ sI (J.heard + 1) ++ (" " : Str) ++ sI (nxt M J.state l).1 ++ ("\n" : Str)) else J.text ++ (("heard " : Str) ++ sI l ++ ("\n" : Str))) = _
  unfold stLs
  have n1 : tl ("\n" : Str) = [10] := rfl
  have n2 : tl (" " : Str) = [32] := rfl
  by_cases h : (J.heard + 1).fmod J.sp = 0
  · rw [if_pos h, if_pos h, joinNL_cons, joinNL_cons]
    simp only [tl_append, tl_sI l0, tl_sI (show 0 ≤ J.heard + 1 by omega), tl_sI r.1, n1, n2, heL, stL]
    simp [joinNL]
  · rw [if_neg h, if_neg h, joinNL_cons]
    simp only [tl_append, tl_sI l0, n1, heL]
    simp [joinNL]
theorem run_text {M : Mac} (mk : MOk M) : ∀ (ls : List Int) (J : Jn), JOk M J → J.heard + ls.length ≤ 1000 → (∀ l ∈ ls, 0 ≤ l ∧ l < M.inp) → tl (runJ M J ls).text = tl J.text ++ joinNL (body M J ls) ∧ JOk M (runJ M J ls) ∧ (runJ M J ls).heard = J.heard + ls.length
  | [], J, o, _, _ => ⟨(List.append_nil _).symm, o, by show J.heard = J.heard + ((0 : Nat) : Int); omega⟩
  | l :: r, J, o, hn, hl => by
    have hr := hl l (List.mem_cons_self ..)
    rw [List.length_cons] at hn
    have o2 := hear_ok mk o hr.1 hr.2 (by omega)
    obtain ⟨h1, h2, h3⟩ := run_text mk r (hear M J l) o2 (by show (J.heard + 1) + _ ≤ _; omega) fun x hx => hl x (List.mem_cons_of_mem _ hx)
    refine ⟨?_, h2, ?_⟩
    · show tl (runJ M (hear M J l) r).text = _
      rw [h1, hear_text mk o hr.1 hr.2, List.append_assoc, ← joinNL_app]
      rfl
    · show (runJ M (hear M J l) r).heard = _
      rw [h3, List.length_cons]
      show (J.heard + 1) + _ = _
      omega
theorem body_len {M : Mac} (mk : MOk M) : ∀ (ls : List Int) (J : Jn), JOk M J → J.heard + ls.length ≤ 1000 → (∀ l ∈ ls, 0 ≤ l ∧ l < M.inp) → (joinNL (body M J ls)).length ≤ 28 * ls.length
  | [], J, o, _, _ => Nat.le_refl _
  | l :: r, J, o, hn, hl => by
    have hr := hl l (List.mem_cons_self ..)
    rw [List.length_cons] at hn
    have o2 := hear_ok mk o hr.1 hr.2 (by omega)
    have ih := body_len mk r (hear M J l) o2 (by show (J.heard + 1) + _ ≤ _; omega) fun x hx => hl x (List.mem_cons_of_mem _ hx)
    obtain ⟨row, e1, e2⟩ := nxt_at mk o hr.1 hr.2
    have rr := mk.rp _ _ _ _ e1 e2
    have h0 := o.h0
    have i2 := mk.i2
    have r2 := mk.r2
    have k1 : (numL l.toNat).length ≤ 4 := numL_len (by decide) (by omega)
    have k2 : (numL (J.heard + 1).toNat).length ≤ 4 := numL_len (by decide) (by omega)
    have k3 : (numL (nxt M J.state l).1.toNat).length ≤ 4 := numL_len (by decide) (by omega)
    have ks : (joinNL (stLs M J l)).length ≤ 17 := by
      unfold stLs
      split
      · rw [joinNL_cons]
        simp only [List.length_append, stL]
        show 6 + _ + (1 + 0) ≤ _
        simp only [List.length_cons, List.length_nil]
        omega
      · exact Nat.zero_le _
    show (joinNL (heL l.toNat :: (stLs M J l ++ body M (hear M J l) r))).length ≤ _
    rw [joinNL_cons, joinNL_app, List.length_cons]
    simp only [List.length_append, heL]
    show 6 + _ + (1 + _) ≤ _
    omega
/-! the lines that were heard -/
def cnt (L : List (List Nat)) : Nat := (L.filter fun l => decide (l.take 6 = tl ("heard " : Str))).length
theorem cnt_he (n : Nat) (L : List (List Nat)) : cnt (heL n :: L) = cnt L + 1 := by
  unfold cnt
  rw [List.filter_cons_of_pos, List.length_cons]
  exact decide_eq_true (show (heL n).take 6 = tl ("heard " : Str) from rfl)
theorem cnt_st (a b : Nat) (L : List (List Nat)) : cnt (stL a b :: L) = cnt L := by
  unfold cnt
  rw [List.filter_cons_of_neg]
  rw [decide_eq_true_eq]
  intro e
  have e2 : tl ("state " : Str) = tl ("heard " : Str) := e
  exact absurd e2 (by decide)
theorem cnt_hd (n : Nat) (L : List (List Nat)) : cnt (hdL n :: L) = cnt L := by
  unfold cnt
  rw [List.filter_cons_of_neg]
  rw [decide_eq_true_eq]
  intro e
  have e2 : (tl ("journal " : Str)).take 6 = tl ("heard " : Str) := e
  exact absurd e2 (by decide)
theorem stLs_two (M : Mac) (J : Jn) (l : Int) : (∃ a b, stLs M J l = [stL a b]) ∨ stLs M J l = [] := by
  unfold stLs
  split
  · exact .inl ⟨_, _, rfl⟩
  · exact .inr rfl
theorem cnt_body (M : Mac) : ∀ (ls : List Int) (J : Jn), cnt (body M J ls) = ls.length
  | [], _ => rfl
  | l :: r, J => by
    show cnt (heL l.toNat :: (stLs M J l ++ body M (hear M J l) r)) = _
    have ih := cnt_body M r (hear M J l)
    rw [cnt_he, List.length_cons]
    rcases stLs_two M J l with ⟨a, b, e⟩ | e
    · rw [e]
      show cnt (stL a b :: body M (hear M J l) r) + 1 = _
      rw [cnt_st, ih]
    · rw [e, List.nil_append, ih]
theorem hearAll_he {M : Mac} {J : Jn} {l : Int} {L : List (List Nat)} (l0 : 0 ≤ l) (l1 : l < M.inp) : hearAll M J (heL l.toNat :: L) = hearAll M (hear M J l) L := by
  have e1 : ¬ (heL l.toNat).take 6 = tl ("state " : Str) := fun e => absurd (show tl ("heard " : Str) = tl ("state " : Str) from e) (by decide)
  have e2 : rdLet M (heL l.toNat) = some l.toNat := by
    unfold rdLet
    rw [if_pos (show (heL l.toNat).take 6 = tl ("heard " : Str) from rfl), show (heL l.toNat).drop 6 = numL l.toNat from rfl, rdNum_num]
    show (if M.inp ≤ ((l.toNat : Nat) : Int) then none else some l.toNat) = _
    rw [if_neg (by omega)]
  show (if (heL l.toNat).take 6 = tl ("state " : Str) then hearAll M J L else match rdLet M (heL l.toNat) with
    | none => none
    | some n => hearAll M (hear M J (n : Int)) L) = _
  rw [if_neg e1, e2]
  show hearAll M (hear M J ((l.toNat : Nat) : Int)) L = _
  rw [show ((l.toNat : Nat) : Int) = l by omega]
theorem hearAll_st {M : Mac} {J : Jn} {a b : Nat} {L : List (List Nat)} : hearAll M J (stL a b :: L) = hearAll M J L := by
  show (if (stL a b).take 6 = tl ("state " : Str) then hearAll M J L else match rdLet M (stL a b) with
    | none => none
    | some n => hearAll M (hear M J (n : Int)) L) = _
  rw [if_pos (show (stL a b).take 6 = tl ("state " : Str) from rfl)]
theorem core {M : Mac} : ∀ (ls : List Int) (J : Jn) (k : Nat), (∀ l ∈ ls, 0 ≤ l ∧ l < M.inp) →
    hearAll M J ((body M J ls).take k) = some (runJ M J (ls.take (cnt ((body M J ls).take k)))) ∧ ∃ r, joinNL (body M J (ls.take (cnt ((body M J ls).take k)))) = joinNL ((body M J ls).take k) ++ r
  | [], J, k, _ => by
    have e : (body M J []).take k = [] := List.take_nil
    rw [e]
    exact ⟨rfl, [], rfl⟩
  | l :: r, J, 0, _ => ⟨rfl, [], rfl⟩
  | l :: r, J, k + 1, hl => by
    have hr := hl l (List.mem_cons_self ..)
    have hl2 : ∀ x ∈ r, 0 ≤ x ∧ x < M.inp := fun x hx => hl x (List.mem_cons_of_mem _ hx)
    have eb : (body M J (l :: r)).take (k + 1) = heL l.toNat :: (stLs M J l ++ body M (hear M J l) r).take k := rfl
    rw [eb, cnt_he, hearAll_he hr.1 hr.2, List.take_succ_cons]
    have er : ∀ n, body M J (l :: r.take n) = heL l.toNat :: (stLs M J l ++ body M (hear M J l) (r.take n)) := fun n => rfl
    rw [er, joinNL_cons, joinNL_cons, joinNL_app]
    show hearAll M (hear M J l) _ = some (runJ M (hear M J l) (r.take _)) ∧ _
    rcases stLs_two M J l with ⟨a, b, e⟩ | e
    · rw [e]
      cases k with
      | zero =>
        refine ⟨rfl, joinNL [stL a b] ++ joinNL (body M (hear M J l) (r.take 0)), ?_⟩
        simp [joinNL, cnt]
      | succ k =>
        have et : ([stL a b] ++ body M (hear M J l) r).take (k + 1) = stL a b :: (body M (hear M J l) r).take k := rfl
        rw [et, cnt_st, hearAll_st]
        obtain ⟨h1, t, h2⟩ := core r (hear M J l) k hl2
        refine ⟨h1, t, ?_⟩
        rw [h2, joinNL_cons]
        simp [joinNL]
    · rw [e, List.nil_append]
      obtain ⟨h1, t, h2⟩ := core r (hear M J l) k hl2
      refine ⟨h1, t, ?_⟩
      rw [h2]
      simp [joinNL]
/-! what a cut keeps -/
theorem keptL_line (L t : List Nat) : keptL (L ++ ([10] ++ t)) = L ++ ([10] ++ keptL t) := by
  have base : keptL ([10] ++ t) = [10] ++ keptL t := by
    show (if keptL t = [] then (if (10 : Nat) = 10 then [10] else []) else 10 :: keptL t) = _
    by_cases h : keptL t = []
    · rw [if_pos h, h] <;> rfl
    · rw [if_neg h] <;> rfl
  induction L with
  | nil => exact base
  | cons c q ih =>
    show (if keptL (q ++ ([10] ++ t)) = [] then (if c = 10 then [10] else []) else c :: keptL (q ++ ([10] ++ t))) = _
    rw [ih, if_neg (by simp)]
    rfl
theorem keptL_cut : ∀ (Ls : List (List Nat)), (∀ p ∈ Ls, 10 ∉ p) → ∀ n, ∃ m, keptL ((joinNL Ls).take n) = joinNL (Ls.take m)
  | [], _, n => ⟨0, by rw [show joinNL [] = [] from rfl, List.take_nil] <;> rfl⟩
  | L :: r, h, n => by
    by_cases hn : n ≤ L.length
    · refine ⟨0, ?_⟩
      rw [joinNL_cons, List.take_append_of_le_length hn]
      exact keptL_nil.mpr fun hm => h L (List.mem_cons_self ..) (List.mem_of_mem_take hm)
    · obtain ⟨j, rfl⟩ : ∃ j, n = L.length + (j + 1) := ⟨n - L.length - 1, by omega⟩
      obtain ⟨m, hm⟩ := keptL_cut r (fun p hp => h p (List.mem_cons_of_mem _ hp)) j
      refine ⟨m + 1, ?_⟩
      rw [joinNL_cons, List.take_length_add_append, List.take_succ_cons, joinNL_cons, ← hm]
      exact keptL_line L _
theorem hd_free (n : Nat) : 10 ∉ hdL n := fun h => by
  rcases List.mem_append.mp h with h | h
  · exact absurd h (by decide)
  · exact numL_free (.inl (by decide)) h
theorem he_free (n : Nat) : 10 ∉ heL n := fun h => by
  rcases List.mem_append.mp h with h | h
  · exact absurd h (by decide)
  · exact numL_free (.inl (by decide)) h
theorem st_free (a b : Nat) {c : Nat} (h1 : c ∉ tl ("state " : Str)) (h2 : c ≠ 32) (h3 : c < 48 ∨ 57 < c) : c ∉ stL a b := fun h => by
  rcases List.mem_append.mp h with h | h
  · exact h1 h
  · rcases List.mem_append.mp h with h | h
    · exact numL_free h3 h
    · rcases List.mem_append.mp h with h | h
      · exact h2 (List.mem_singleton.mp h)
      · exact numL_free h3 h
theorem body_ok (M : Mac) : ∀ (ls : List Int) (J : Jn), ∀ p ∈ body M J ls, (∃ n, p = heL n) ∨ (∃ a b, p = stL a b)
  | [], _, p, h => by cases h
  | l :: r, J, p, h => by
    rcases List.mem_cons.mp h with e | h
    · exact .inl ⟨_, e⟩
    · rcases List.mem_append.mp h with h | h
      · rcases stLs_two M J l with ⟨a, b, e⟩ | e
        · rw [e] at h
          exact .inr ⟨a, b, List.mem_singleton.mp h⟩
        · rw [e] at h
          cases h
      · exact body_ok M r _ p h
def allL (M : Mac) (s : Nat) (ls : List Int) : List (List Nat) := hdL s :: body M (jNew M s) ls
theorem allL_free (M : Mac) (s : Nat) (ls : List Int) : ∀ p ∈ allL M s ls, 10 ∉ p := fun p h => by
  rcases List.mem_cons.mp h with e | h
  · rw [e]
    exact hd_free s
  · rcases body_ok M ls _ p h with ⟨n, rfl⟩ | ⟨a, b, rfl⟩
    · exact he_free n
    · exact st_free a b (by decide) (by decide) (.inl (by decide))
theorem new_text (M : Mac) (s : Nat) : tl (jNew M (s : Int)).text = hdL s ++ [10] := by
  show tl (("journal " : Str) ++ sI (s : Int) ++ ("\n" : Str)) = _
  rw [tl_append, tl_append, sI_num]
  rfl
theorem run_all {M : Mac} (mk : MOk M) {s : Nat} {ls : List Int} (o : JOk M (jNew M (s : Int))) (hn : ls.length ≤ 1000) (hl : ∀ l ∈ ls, 0 ≤ l ∧ l < M.inp) : tl (runJ M (jNew M (s : Int)) ls).text = joinNL (allL M s ls) := by
  rw [(run_text mk ls _ o (by show (0 : Int) + _ ≤ _; omega) hl).1, new_text]
  show _ = (hdL s ++ [10]) ++ joinNL _
  rfl
theorem recov_cut {M : Mac} (mk : MOk M) {s : Nat} {ls : List Int} {m : Nat} {z : List Nat} (o : JOk M (jNew M (s : Int))) (hn : ls.length ≤ 1000) (hl : ∀ l ∈ ls, 0 ≤ l ∧ l < M.inp) (hz : keptL z = joinNL ((allL M s ls).take m)) :
    recov M z = some (runJ M (if keptL z = [] then jNew M 4 else jNew M (s : Int)) (ls.take (cnt ((allL M s ls).take m)))) := by
  cases m with
  | zero =>
    have e : keptL z = [] := hz
    unfold recov
    rw [e, if_pos rfl]
    rfl
  | succ m =>
    have e : (allL M s ls).take (m + 1) = hdL s :: (body M (jNew M (s : Int)) ls).take m := rfl
    rw [e] at hz ⊢
    rw [cnt_hd]
    have hne : ¬ keptL z = [] := by
      rw [hz, joinNL_cons]
      simp
    rw [if_neg hne]
    have hlns : lns (keptL z) = hdL s :: (body M (jNew M (s : Int)) ls).take m := by
      rw [hz]
      exact lns_joinNL fun p hp => allL_free M s ls p (by rw [← e] at hp; exact List.mem_of_mem_take hp)
    obtain ⟨h1, r, h2⟩ := core ls (jNew M (s : Int)) m hl
    have s1 : ¬ s = 0 := by
      have : (1 : Int) ≤ (s : Int) := o.s1
      omega
    have hpre : ∀ c, (tl (runJ M (jNew M (s : Int)) (ls.take c)).text) = joinNL (allL M s (ls.take c)) := fun c => run_all mk o (by rw [List.length_take]; omega) fun l h => hl l (List.mem_of_mem_take h)
    unfold recov
    rw [hlns]
    show (if (hdL s).take 8 = tl ("journal " : Str) then (match rdNum ((hdL s).drop 8) with
      | none => none
      | some sp => if sp = 0 then none else match hearAll M (jNew M (sp : Int)) ((body M (jNew M (s : Int)) ls).take m) with
        | none => none
        | some J => if (tl J.text).take (keptL z).length = keptL z then some J else none) else none) = _
    rw [if_pos (show (hdL s).take 8 = tl ("journal " : Str) from rfl), show (hdL s).drop 8 = numL s from rfl, rdNum_num]
    show (if s = 0 then none else match hearAll M (jNew M (s : Int)) ((body M (jNew M (s : Int)) ls).take m) with
        | none => none
        | some J => if (tl J.text).take (keptL z).length = keptL z then some J else none) = _
    rw [if_neg s1, h1]
    show (if (tl (runJ M (jNew M (s : Int)) (ls.take _)).text).take (keptL z).length = keptL z then some (runJ M (jNew M (s : Int)) (ls.take _)) else none) = _
    rw [if_pos]
    rw [hpre, hz, joinNL_cons]
    show (joinNL (hdL s :: body M (jNew M (s : Int)) _)).take _ = _
    rw [joinNL_cons, h2, ← List.append_assoc, ← List.append_assoc, ← List.append_assoc, List.append_assoc (hdL s)]
    exact List.take_left' rfl
theorem recov_run {M : Mac} (mk : MOk M) {s : Nat} {ls : List Int} (o : JOk M (jNew M (s : Int))) (hn : ls.length ≤ 1000) (hl : ∀ l ∈ ls, 0 ≤ l ∧ l < M.inp) : recov M (tl (runJ M (jNew M (s : Int)) ls).text) = some (runJ M (jNew M (s : Int)) ls) := by
  have e := run_all mk o hn hl
  have et : (allL M s ls).take (allL M s ls).length = allL M s ls := List.take_length
  have hz : keptL (tl (runJ M (jNew M (s : Int)) ls).text) = joinNL ((allL M s ls).take (allL M s ls).length) := by
    rw [e, et]
    exact keptL_joinNL
  have h := recov_cut mk o hn hl hz
  have hne : ¬ keptL (tl (runJ M (jNew M (s : Int)) ls).text) = [] := by
    rw [hz, et]
    show ¬ joinNL (hdL s :: _) = []
    rw [joinNL_cons]
    simp
  rw [h, if_neg hne, et]
  show some (runJ M _ (ls.take (cnt (hdL s :: body M (jNew M (s : Int)) ls)))) = _
  rw [cnt_hd, cnt_body, List.take_length]
/-! counts of signs -/
theorem spl_pos (S : List Nat) : ∀ (l : List Nat) (k : Nat) (acc : List Nat), 1 ≤ (spl S k acc l).length
  | [], k, acc => by rw [spl_nil] <;> exact Nat.le_refl _
  | c :: r, 0, acc => by
    show 1 ≤ (if pre S (c :: r) = true then acc :: spl S (S.length - 1) [] r else spl S 0 (acc ++ [c]) r).length
    split
    · simp
    · exact spl_pos S r 0 _
  | c :: r, k + 1, acc => spl_pos S r k acc
theorem count_NL (x : Str) : Txt.count x NL > 0 ↔ keptL (tl x) ≠ [] := by
  rw [count_spl x NL (by rw [tl_NL]; simp), tl_NL]
  by_cases h : 10 ∈ tl x
  · obtain ⟨a, b, e, hn⟩ := List.eq_append_cons_of_mem h
    have h1 : spl [10] 0 [] (tl x) = ([] ++ a) :: spl [10] 0 [] b := by
      rw [e]
      exact spl_part1 (s := 10) (S := []) (p := a) (rest := b) (acc := []) hn
    have h2 := spl_pos [10] b 0 []
    rw [h1, List.length_cons]
    refine ⟨fun _ e0 => keptL_nil.mp e0 h, fun _ => by omega⟩
  · have h1 : spl [10] 0 [] (tl x) = [[] ++ tl x] := spl_last1 (S := []) h
    rw [h1]
    exact ⟨fun e => (Int.lt_irrefl 0 (show (0 : Int) < 0 from e)).elim, fun e => absurd (keptL_nil.mpr h) e⟩
theorem spl_skip {s : Nat} {S : List Nat} : ∀ (q rest acc : List Nat), s ∉ q → spl (s :: S) 0 acc (q ++ rest) = spl (s :: S) 0 (acc ++ q) rest
  | [], rest, acc, _ => by rw [List.append_nil] <;> rfl
  | c :: r, rest, acc, h => by
    have hc : s ≠ c := fun e => h (by rw [e]; exact List.mem_cons_self ..)
    have hr : s ∉ r := fun e => h (List.mem_cons_of_mem _ e)
    show spl (s :: S) 0 acc (c :: (r ++ rest)) = _
    rw [spl_miss (by
      show (List.take _ (c :: (r ++ rest)) == _) = false
      rw [beq_eq_false_iff_ne]
      intro e
      exact hc (List.cons.inj e).1.symm), spl_skip r rest (acc ++ [c]) hr, List.append_assoc]
    rfl
theorem spl_cnt : ∀ (Ls : List (List Nat)), (∀ p ∈ Ls, (∃ n, p = heL n) ∨ (104 ∉ p)) → ∀ acc, (spl (tl ("heard " : Str)) 0 acc (joinNL Ls)).length = cnt Ls + 1
  | [], _, acc => by
    show (spl _ 0 acc []).length = _
    rw [spl_nil]
    rfl
  | p :: r, h, acc => by
    have ih := spl_cnt r fun q hq => h q (List.mem_cons_of_mem _ hq)
    have eh : tl ("heard " : Str) = 104 :: [101, 97, 114, 100, 32] := rfl
    rcases h p (List.mem_cons_self ..) with ⟨n, rfl⟩ | hn
    · rw [cnt_he, joinNL_cons]
      have h1 : spl (tl ("heard " : Str)) 0 acc (heL n ++ ([10] ++ joinNL r)) = (acc ++ []) :: spl (tl ("heard " : Str)) 0 [] ((numL n ++ [10]) ++ joinNL r) := by
        have := spl_part1 (s := 104) (S := [101, 97, 114, 100, 32]) (p := []) (rest := (numL n ++ [10]) ++ joinNL r) (acc := acc) (by simp)
        rw [← eh] at this
        rw [← this]
        show spl _ 0 acc ((tl ("heard " : Str) ++ numL n) ++ ([10] ++ joinNL r)) = _
        rw [List.nil_append]
        simp
      have hn : 104 ∉ numL n ++ [10] := fun hm => by
        rcases List.mem_append.mp hm with hm | hm
        · exact numL_free (.inr (by decide)) hm
        · exact absurd hm (by decide)
      rw [h1, List.length_cons]
      have h2 := spl_skip (s := 104) (S := [101, 97, 114, 100, 32]) (numL n ++ [10]) (joinNL r) [] hn
      rw [← eh] at h2
      rw [h2, ih]
    · have h2 := spl_skip (s := 104) (S := [101, 97, 114, 100, 32]) (p ++ [10]) (joinNL r) acc (fun hm => by
        rcases List.mem_append.mp hm with hm | hm
        · exact hn hm
        · exact absurd hm (by decide))
      rw [← eh] at h2
      have e1 : joinNL (p :: r) = (p ++ [10]) ++ joinNL r := rfl
      rw [e1, h2, ih]
      have e2 : cnt (p :: r) = cnt r := by
        unfold cnt
        rw [List.filter_cons_of_neg]
        rw [decide_eq_true_eq]
        intro e
        have : 104 ∈ p.take 6 := by
          rw [e]
          decide
        exact hn (List.mem_of_mem_take this)
      rw [e2]
theorem count_he {x : Str} {M : Mac} {s : Nat} {ls : List Int} {m : Nat} (h : tl x = joinNL ((allL M s ls).take m)) : Txt.count x ("heard " : Str) = ((cnt ((allL M s ls).take m) : Nat) : Int) := by
  rw [count_spl x _ (by decide), h, spl_cnt _ (fun p hp => ?_) []]
  · rfl
  · rcases List.mem_cons.mp (List.mem_of_mem_take hp) with e | h
    · right
      rw [e]
      intro hm
      rcases List.mem_append.mp hm with hm | hm
      · exact absurd hm (by decide)
      · exact numL_free (.inr (by decide)) hm
    · rcases body_ok M ls _ p h with ⟨n, rfl⟩ | ⟨a, b, rfl⟩
      · exact .inl ⟨n, rfl⟩
      · exact .inr (st_free a b (by decide) (by decide) (.inr (by decide)))
end Pk

namespace Pk
open PySem PySem.Spec PyProof.Rows L2 TL Pp
/-! ### data of numbers -/
theorem dpAll_ints {K : PySem.W.Frag} {H : Hp} : ∀ ns : List Int, DpAll K H (ns.map V.int) (ns.map PyData.int)
  | [] => .nil
  | n :: r => .cons (.int n) (dpAll_ints r)
theorem canLay_ints : ∀ ns : List Int, PyData.canLayAll0 (ns.map PyData.int) = true
  | [] => rfl
  | n :: r => by
    show (true && PyData.canLayAll0 (r.map PyData.int)) = true
    rw [canLay_ints r]
    rfl
theorem depth_ints : ∀ ns : List Int, PyData.depthAll (ns.map PyData.int) ≤ 1
  | [] => Nat.zero_le _
  | n :: r => by
    have h := depth_ints r
    have e : PyData.depth (.int n) ≤ 1 := by
      unfold PyData.depth
      omega
    show max (PyData.depth (.int n)) (PyData.depthAll (r.map PyData.int)) ≤ 1
    omega
theorem sh_tup (ns : List Int) : SeqAt.shaped (.tuple (ns.map PyData.int)) = true := by
  have h := depth_ints ns
  unfold SeqAt.shaped
  rw [Bool.and_eq_true, decide_eq_true_eq]
  refine ⟨canLay_ints ns, ?_⟩
  show PyData.depthAll (ns.map PyData.int) + 1 ≤ 64
  omega
theorem sh_lst (ns : List Int) : SeqAt.shaped (.list (ns.map PyData.int)) = true := by
  have h := depth_ints ns
  unfold SeqAt.shaped
  rw [Bool.and_eq_true, decide_eq_true_eq]
  refine ⟨canLay_ints ns, ?_⟩
  show PyData.depthAll (ns.map PyData.int) + 1 ≤ 64
  omega
theorem eqv_tup (ns : List Int) : PyData.eqv (.tuple (ns.map PyData.int)) (.tuple (ns.map PyData.int)) = true := PySem.SeqAt.eqv_refl _ (canLay_ints ns)
theorem eqv_lst (ns : List Int) : PyData.eqv (.list (ns.map PyData.int)) (.list (ns.map PyData.int)) = true := PySem.SeqAt.eqv_refl _ (canLay_ints ns)
section
variable {P : Program} {w : World} {K : PySem.W.Frag} {mg : Str → Option Value} {base : Heap} {CJ CM CB CL CI : Addr}
abbrev s_law_same_journal : Stmt := topS 21
abbrev N_law_same_journal : List Str := ["one", "two"]
theorem sc_law_same_journal : FnScope N_law_same_journal ["one", "two"] (defScope s_law_same_journal) := ⟨rfl, rfl, rfl, by decide +kernel, rfl, by decide +kernel, by decide +kernel⟩
def spSame (CJ : Addr) : Sp := fun vs H Q _ => ∃ (a b m n : Addr) (J : Jn), vs = [.ref a, .ref b] ∧ IsJ CJ H a m J ∧ IsJ CJ H b n J ∧ Q (.bl true) H
theorem ok_same {f : Addr} {fd : FuncData} (F : FnP K "_law_same_journal" s_law_same_journal f fd) (T : T0 K mg CJ CM CB CL CI) (p_Journal_said : PC P w K mg base 1 CJ "said" (spSaid CJ)) : FnOk P w K mg base CX0 3 f fd ["one", "two"] (spSame CJ) := by
  refine F.ok sc_law_same_journal (fun vs H Q E h => ?_) (fun cdv A outer s H vs Q E hr h => ?_)
  · obtain ⟨a, b, m, n, J, rfl, _⟩ := h
    rfl
  · obtain ⟨a, b, m, n, J, rfl, ⟨dx, po, ha, hpo⟩, ⟨dy, pp, hb, hpp⟩, q⟩ := h
    refine ⟨_, (pss_one (ps_ret (pe_and (pe_cmpR op_eq (pe_fldK (K := K) rfl (pv 0) rfl) (pe_fldK (K := K) rfl (pv 1) rfl) (nomark _)) (pe_and (pe_cmpR op_eq (pe_fldK (K := K) rfl (pv 0) rfl) (pe_fldK (K := K) rfl (pv 1) rfl) (nomark _)) (pe_and (pe_cmpR (op_eqDK (K := K) rfl hr.units) (pe_prp p_Journal_said hr (by decide) (pv 0) rfl) (pe_prp p_Journal_said hr (by decide) (pv 1) rfl) (nomark _)) (pe_one (pe_cmpR op_eq (pe_fldK (K := K) rfl (pv 0) rfl) (pe_fldK (K := K) rfl (pv 1) rfl) (nomark _)))))))), ?_⟩
    obtain ⟨_, _, _, _, _, _, _, _, _, _, _, _, _, _, _, _, _, _, _, _, _, _, _, _⟩ := T
    have sa : SVal (spSaid CJ) [.ref a] H (.ref po) := fun Q E q => ⟨a, m, dx, po, J, rfl, ha, q⟩
    have sb : SVal (spSaid CJ) [.ref b] H (.ref pp) := fun Q E q => ⟨b, n, dy, pp, J, rfl, hb, q⟩
    refine z_ret (v := .bl true) (va_to (va_andV (by k_upd) fun _ => va_andV (by k_upd) fun _ => va_andV (va_op (va_prop (by k_upd) ha sa) (va_prop (by k_upd) hb sb) (ra_eqD (.tup (SqT.of hpo) (dpAll_ints J.said)) (.tup (SqT.of hpp) (dpAll_ints J.said)) (sh_tup _) (sh_tup _))) fun _ => (by k_upd)) ?_) q
    rw [eqv_tup, decide_eq_true rfl, decide_eq_true rfl, decide_eq_true rfl] <;> rfl
end
end Pk

namespace Pk
open PySem PySem.Spec PyProof.Rows L2 TL Pp
theorem mkM1 {K : PySem.W.Frag} {CM CI : Addr} {H : Hp} {x dx L q : Addr} {M : Mac} {R : Hp → Prop} {E : XK} (hL : H L = some (.lst (M.op.map V.int))) (hq : RowsL H q M.rows) (mk : MOk M) (opl : ∀ x ∈ M.op, 0 ≤ x ∧ x < M.out) (hx : H x = none) (hdx : H dx = none) (ne : dx ≠ x) (k : ∀ H', Same H H' → IsMac CM H' x M → R H') :
    spMInit K CM CI [.ref x, .int M.inp, .int M.out, .int M.lead, .ref L, .ref q] (upd (upd H dx (.own x)) x (.ins CM dx [])) (fun v H3 => v = .non ∧ R H3) E := by
  have s : Same H (upd (upd H dx (.own x)) x (.ins CM dx [])) := fun b o h => keep_ne (ne_of_none h hx) (keep_new hdx h)
  exact ⟨x, dx, L, q, M, rfl, upd_same, SqL.of (s _ _ hL), hq.same s, mk, opl, fun H' f j => ⟨rfl, k H' (fun b o h => f b o (s b o h) (ne_of_none h hx)) j⟩⟩
section
variable {ta te : TE} {t : TT} {tu tw tz : TS} {D : Ends} {σ : L2.St} {H : Hp} {g : TG}
theorem zs_addtake {d : Addr} {i j : Nat} {c lim : Int} (hv : σ[j]? = some (some (.ref d))) (hd : H d = some (DR d)) (hl : 0 < lim) (k : ∀ x : Int, c ≤ x → x < c + lim → tz D (σ.set i (some (.int x))) H) :
    tSeq (tAsg (tOp (rI0 fun i j => V.int (i + j)) (tC (.int c)) (tCall spTake [] E0 (tCons (tVar j) (tCons (tC (.int lim)) tNil)))) (gName i)) tz D σ H :=
  ⟨.ref d, hv, d, lim, rfl, hd, hl, fun r r0 r1 => ⟨c, r, rfl, rfl, k (c + r) (by omega) (by omega)⟩⟩
theorem zs_taksub {d : Addr} {i j : Nat} {c lim : Int} (hv : σ[j]? = some (some (.ref d))) (hd : H d = some (DR d)) (hl : 0 < lim) (k : ∀ x : Int, -c ≤ x → x < lim - c → tz D (σ.set i (some (.int x))) H) :
    tSeq (tAsg (tOp (rI0 fun i j => V.int (i - j)) (tCall spTake [] E0 (tCons (tVar j) (tCons (tC (.int lim)) tNil))) (tC (.int c))) (gName i)) tz D σ H :=
  ⟨.ref d, hv, d, lim, rfl, hd, hl, fun r r0 r1 => ⟨r, c, rfl, rfl, k (r - c) (by omega) (by omega)⟩⟩
theorem zs_rawasg (h : te σ H fun v H1 => g v σ H1 (tz D)) : tSeq (tAsg te g) tz D σ H := h
theorem zs_ifraw (h : t σ H fun b H1 => if b = true then tu { D with nx := tz D } σ H1 else tw { D with nx := tz D } σ H1) : tSeq (tIfS t tu tw) tz D σ H := h
theorem z_ifraw (h : t σ H fun b H1 => if b = true then tu D σ H1 else tw D σ H1) : tIfS t tu tw D σ H := h
theorem zs_forraw {wi : TI} (h : tFor wi g tu { D with nx := tz D } σ H) : tSeq (tFor wi g tu) tz D σ H := h
end
theorem text_len {M : Mac} (mk : MOk M) {s : Nat} {ls : List Int} (o : JOk M (jNew M (s : Int))) (hs : s < 10000) (hn : ls.length ≤ 12) (hl : ∀ l ∈ ls, 0 ≤ l ∧ l < M.inp) : (runJ M (jNew M (s : Int)) ls).text.length ≤ 400 := by
  have h1 := body_len mk ls _ o (by show (0 : Int) + _ ≤ _; omega) hl
  have h2 : (numL s).length ≤ 4 := numL_len (by decide) (by omega)
  rw [len_tl, (run_text mk ls _ o (by show (0 : Int) + _ ≤ _; omega) hl).1, new_text]
  simp only [List.length_append, hdL]
  show 8 + _ + (0 + 1) + _ ≤ _
  omega
theorem keptL_junk {j : List Nat} (hj : 10 ∉ j) : ∀ Ls : List (List Nat), keptL (joinNL Ls ++ j) = joinNL Ls
  | [] => keptL_nil.mpr hj
  | p :: r => by
    rw [joinNL_cons, List.append_assoc, List.append_assoc, keptL_line, keptL_junk hj r]
theorem recov_congr {M : Mac} {z z' : List Nat} (h : keptL z = keptL z') : recov M z = recov M z' := by
  unfold recov
  rw [h]
theorem run_ok {M : Mac} (mk : MOk M) {J : Jn} {ls : List Int} (o : JOk M J) (h0 : J.heard = 0) (hn : ls.length ≤ 100) (hl : ∀ l ∈ ls, 0 ≤ l ∧ l < M.inp) (i : Nat) : JOk M (runJ M J (ls.take i)) ∧ (runJ M J (ls.take i)).heard ≤ 100 := by
  have h := run_text mk (ls.take i) J o (by rw [h0, List.length_take]; omega) fun l hm => hl l (List.mem_of_mem_take hm)
  refine ⟨h.2.1, ?_⟩
  rw [h.2.2, h0, List.length_take]
  omega
theorem run_take {M : Mac} {J : Jn} {ls : List Int} {i : Nat} {l : Int} (h : ls[i]? = some l) : runJ M J (ls.take (i + 1)) = hear M (runJ M J (ls.take i)) l := by
  rw [take_more h, runJ_snoc]
section
variable {P : Program} {w : World} {K : PySem.W.Frag} {mg : Str → Option Value} {base : Heap} {CJ CM CB CL CI : Addr}
abbrev s_law : Stmt := topS 22
abbrev N_law : List Str := ["script", "draws", "inputs", "outputs", "lead", "opening", "rows", "machine", "spacing", "journal", "letters", "letter", "text", "lines", "kept", "expected", "count", "found", "again", "k", "said"]
theorem sc_law : FnScope N_law ["script"] (defScope s_law) := ⟨rfl, rfl, rfl, by decide +kernel, rfl, by decide +kernel, by decide +kernel⟩
def spLaw (K : PySem.W.Frag) : Sp := fun vs H Q _ => ∃ (a : Addr) (ns : List Int), vs = [.ref a] ∧ SqL K H a (ns.map V.int) ∧ ns.length ≤ 1000 ∧ ∀ H', Q (.bl true) H'
theorem ok_law {f : Addr} {fd : FuncData} (F : FnP K "law" s_law f fd) (T : T0 K mg CJ CM CB CL CI) (f_law_draws : FC P w K mg base CX0 1 "_law_draws" (spDraws K)) (f_law_take : FC P w K mg base CX0 1 "_law_take" spTake) (f_law_machine : FC P w K mg base CX0 2 "_law_machine" spMach)
    (m_Machine : KC P w K mg base (L2.CX P w) 2 "Machine" CM (spMInit K CM CI) []) (f_law_flat : FC P w K mg base CX0 1 "_law_flat" spFlat) (m_Journal : KC P w K mg base CX0 1 "Journal" CJ (spJInit CJ CM) [.int 4]) (m_Journal_k : KK P w K mg base CX0 1 "Journal" CJ (spJInit CJ CM) ["spacing"] (fun vs zs => vs ++ zs))
    (t_Journal_hear : TC P w K mg base (L2.CX P w) 1 CJ "hear" (spHear CJ CM CL)) (f_recover : FC P w K mg base (L2.CX P w) 3 "recover" (spRec CJ CM CB)) (f_law_same_journal : FC P w K mg base CX0 3 "_law_same_journal" (spSame CJ)) :
    FnOk P w K mg base CX0 5 f fd ["script"] (spLaw K) := by
  refine F.ok sc_law (fun vs H Q E h => ?_) (fun cdv A outer s H vs Q E hr h => ?_)
  · obtain ⟨a, ns, rfl, _⟩ := h
    rfl
  · obtain ⟨a, ns, rfl, hS, hns, q⟩ := h
    refine ⟨_, (pss_cons (ps_set (i := 1) sc_law.nd rfl (Or.inr rfl) (pe_cc f_law_draws hr (by decide) (by rfl) (pa_cons (pv 0) (pa_cons pe_int pa_nil))))
(pss_cons (ps_set (i := 2) sc_law.nd rfl (Or.inr rfl) (pe_op op_add pe_int (pe_cc f_law_take hr (by decide) (by rfl) (pa_cons (pv 1) (pa_cons pe_int pa_nil)))))
(pss_cons (ps_set (i := 3) sc_law.nd rfl (Or.inl rfl) (pe_op op_add pe_int (pe_cc f_law_take hr (by decide) (by rfl) (pa_cons (pv 1) (pa_cons pe_int pa_nil)))))
(pss_cons (ps_set (i := 4) sc_law.nd rfl (Or.inl rfl) (pe_op op_sub (pe_cc f_law_take hr (by decide) (by rfl) (pa_cons (pv 1) (pa_cons pe_int pa_nil))) pe_int))
(pss_cons (ps_asg (pe_cc f_law_machine hr (by decide) (by rfl) (pa_cons (pv 1) (pa_cons (pv 2) (pa_cons (pv 3) (pa_cons (pv 4) (pa_cons pe_int pa_nil)))))) (pg_tupK (K := K) rfl rfl (pgs_cons (pg_name (i := 5) sc_law.nd rfl (Or.inl rfl)) (pgs_cons (pg_name (i := 6) sc_law.nd rfl (Or.inl rfl)) pgs_nil))))
(pss_cons (ps_set (i := 7) sc_law.nd rfl (Or.inl rfl) (pe_mkl m_Machine hr (by decide) (by rfl) (pa_cons (pv 2) (pa_cons (pv 3) (pa_cons (pv 4) (pa_cons (pe_callTy (call_listK (K := K) rfl) (by rfl) T.n_list (by decide +kernel) (pa_cons (pv 5) pa_nil)) (pa_cons (pe_cc f_law_flat hr (by decide) (by rfl) (pa_cons (pv 6) pa_nil)) pa_nil)))))))
(pss_cons (ps_set (i := 8) sc_law.nd rfl (Or.inl rfl) (pe_op op_add pe_int (pe_cc f_law_take hr (by decide) (by rfl) (pa_cons (pv 1) (pa_cons pe_int pa_nil)))))
(pss_cons (ps_set (i := 9) sc_law.nd rfl (Or.inl rfl) (pe_mkk m_Journal_k hr (by decide) (by rfl) (pa_cons (pv 7) pa_nil) (pk_cons (pv 8) pk_nil)))
(pss_cons (ps_setLc (i := 10) (own := [("k", 19)]) rfl sc_law.nd rfl rfl (sw_true rfl rfl rfl (by decide +kernel)) (pi_range1 rfl T.n_range (pa_cons (pe_cc f_law_take hr (by decide) (by rfl) (pa_cons (pv 1) (pa_cons pe_int pa_nil))) pa_nil)) (blkOk_by (own := [("k", 19)]) (N := N_law) (sc := defScope s_law) (by decide +kernel)) (fun _ _ _ _ _ => (pg_name (i := 19) sc_law.nd rfl (Or.inl rfl))) (fun _ _ _ _ _ => pts_nil) (fun _ _ _ _ _ => (pe_cc f_law_take hr (by decide) (by rfl) (pa_cons (pv 1) (pa_cons (pv 2) pa_nil)))))
(pss_cons (ps_for PassesOwn.leaving rfl (pi_listK (K := K) rfl (pv 10)) (pg_name (i := 11) sc_law.nd rfl (Or.inl rfl))
  (pss_one (ps_expr (pe_mtl t_Journal_hear hr (by decide) (pv 9) (pa_cons (pv 11) pa_nil)))))
(pss_cons (ps_set (i := 12) sc_law.nd rfl (Or.inl rfl) (pe_slice sl_str (pe_fldK (K := K) rfl (pv 9) rfl) po_none (po_some (pe_op op_modN (pe_op op_add (pe_op op_mul pe_int (pe_cc f_law_take hr (by decide) (by rfl) (pa_cons (pv 1) (pa_cons pe_int pa_nil)))) (pe_cc f_law_take hr (by decide) (by rfl) (pa_cons (pv 1) (pa_cons pe_int pa_nil)))) (pe_op op_add (pe_callB call_len_str (by rfl) T.n_len PySem.boot_len (pa_cons (pe_fldK (K := K) rfl (pv 9) rfl) pa_nil)) pe_int)))))
(pss_cons (ps_set (i := 13) sc_law.nd rfl (Or.inl rfl) (pe_bm PySem.F.plainAttrs_str PySem.F.slot_str_count PySem.F.type_str_count mt_count (pv 12) (pa_cons pe_str pa_nil)))
(pss_cons (ps_set (i := 14) sc_law.nd rfl (Or.inl rfl) (pe_slice sl_str (pv 12) po_none (po_some (pe_op op_add (pe_bm PySem.F.plainAttrs_str PySem.F.slot_str_rfind PySem.F.type_str_rfind mt_rfind (pv 12) (pa_cons pe_str pa_nil)) pe_int))))
(Evl.pss_cut (ps_if (pt_cmpR op_eq (pe_cc f_law_take hr (by decide) (by rfl) (pa_cons (pv 1) (pa_cons pe_int pa_nil))) pe_int (nomark _))
  (pss_one (ps_set (i := 12) sc_law.nd rfl (Or.inl rfl) (pe_op op_add_str (pv 14) (pe_ix (ix_listK (K := K) rfl) (pe_lst (pa_cons pe_str (pa_cons pe_str (pa_cons pe_str (pa_cons pe_str (pa_cons pe_str (pa_cons pe_str pa_nil))))))) (pe_cc f_law_take hr (by decide) (by rfl) (pa_cons (pv 1) (pa_cons pe_int pa_nil))) (fun _ _ => rfl)))))
  pss_nil)
(pss_cons (ps_set (i := 15) sc_law.nd rfl (Or.inl rfl) (pe_mk0 m_Journal hr (by decide) (by rfl) (pa_cons (pv 7) pa_nil)))
(Evl.pss_cut (ps_if (pt_cmpR op_gt (pv 13) pe_int (nomark _))
  (pss_one (ps_set (i := 15) sc_law.nd rfl (Or.inl rfl) (pe_mkk m_Journal_k hr (by decide) (by rfl) (pa_cons (pv 7) pa_nil) (pk_cons (pv 8) pk_nil))))
  pss_nil)
(pss_cons (ps_set (i := 16) sc_law.nd rfl (Or.inl rfl) (pe_bm PySem.F.plainAttrs_str PySem.F.slot_str_count PySem.F.type_str_count mt_count (pv 14) (pa_cons pe_str pa_nil)))
(pss_cons (ps_for PassesOwn.leaving rfl (pi_listK (K := K) rfl (pe_slice (sl_listK (K := K) rfl) (pv 10) po_none (po_some (pv 16)))) (pg_name (i := 11) sc_law.nd rfl (Or.inl rfl))
  (pss_one (ps_expr (pe_mtl t_Journal_hear hr (by decide) (pv 15) (pa_cons (pv 11) pa_nil)))))
(pss_cons (ps_set (i := 17) sc_law.nd rfl (Or.inl rfl) (pe_cl f_recover hr (by decide) (by rfl) (pa_cons (pv 7) (pa_cons (pv 12) pa_nil))))
(pss_cons (ps_set (i := 18) sc_law.nd rfl (Or.inl rfl) (pe_cl f_recover hr (by decide) (by rfl) (pa_cons (pv 7) (pa_cons (pe_fldK (K := K) rfl (pv 17) rfl) pa_nil))))
(pss_cons (ps_if (PW.pt (pw_or (pt_not (pt_val (pe_cc f_law_same_journal hr (by decide) (by rfl) (pa_cons (pv 17) (pa_cons (pv 15) pa_nil))))) (pw_or1 (pt_not (pt_val (pe_cc f_law_same_journal hr (by decide) (by rfl) (pa_cons (pv 18) (pa_cons (pv 15) pa_nil))))))))
  (pss_one (ps_ret pe_bl))
  pss_nil)
(pss_cons (ps_for PassesOwn.leaving rfl (pi_range1 rfl T.n_range (pa_cons (pe_cc f_law_take hr (by decide) (by rfl) (pa_cons (pv 1) (pa_cons pe_int pa_nil))) pa_nil)) (pg_name (i := 19) sc_law.nd rfl (Or.inl rfl))
  (pss_cons (ps_set (i := 11) sc_law.nd rfl (Or.inl rfl) (pe_cc f_law_take hr (by decide) (by rfl) (pa_cons (pv 1) (pa_cons (pv 2) pa_nil))))
  (pss_cons (ps_set (i := 20) sc_law.nd rfl (Or.inl rfl) (pe_mtl t_Journal_hear hr (by decide) (pv 17) (pa_cons (pv 11) pa_nil)))
  (pss_one (ps_if (PW.pt (pw_or (pt_cmpR (op_neDK (K := K) rfl hr.units) (pv 20) (pe_mtl t_Journal_hear hr (by decide) (pv 15) (pa_cons (pv 11) pa_nil)) (nomark _)) (pw_or1 (pt_cmpR (op_neDK (K := K) rfl hr.units) (pv 20) (pe_mtl t_Journal_hear hr (by decide) (pv 18) (pa_cons (pv 11) pa_nil)) (nomark _)))))
    (pss_one (ps_ret pe_bl))
    pss_nil)))))
(pss_cons (ps_if (PW.pt (pw_or (pt_not (pt_val (pe_cc f_law_same_journal hr (by decide) (by rfl) (pa_cons (pv 17) (pa_cons (pv 15) pa_nil))))) (pw_or1 (pt_not (pt_val (pe_cc f_law_same_journal hr (by decide) (by rfl) (pa_cons (pv 18) (pa_cons (pv 15) pa_nil))))))))
  (pss_one (ps_ret pe_bl))
  pss_nil)
(pss_one (ps_ret (pe_cc f_law_same_journal hr (by decide) (by rfl) (pa_cons (pe_cl f_recover hr (by decide) (by rfl) (pa_cons (pv 7) (pa_cons (pv 12) pa_nil))) (pa_cons (pe_cl f_recover hr (by decide) (by rfl) (pa_cons (pv 7) (pa_cons (pv 14) pa_nil))) pa_nil)))))))))))))))))))))))))))), ?_⟩
    obtain ⟨_, _, _, _, _, _, _, _, _, _, _, _, _, _, _, _, _, _, _, _, _, _, _, _⟩ := T
    -- draws
    refine zs_raw ?_
    refine ⟨.ref a, rfl, a, ns, 120, rfl, hS, hns, by decide, by decide, fun H1 d s1 hd => ?_⟩
    refine zs_addtake rfl hd (by decide) fun inp i0 i1 => ?_
    refine zs_addtake rfl hd (by decide) fun out o0 o1 => ?_
    refine zs_taksub rfl hd (by decide) fun lead l0 l1 => ?_
    -- opening, rows
    refine zs_rawasg ?_
    refine ⟨.ref d, rfl, .int inp, rfl, .int out, rfl, .int lead, rfl, d, inp, out, lead, 4, rfl, hd, i0, by omega, o0, by omega, l0, by omega, by decide, by decide, fun H2 p po pr M s2 hp hpo hpr ei eo el mk opl hrl => ?_⟩
    subst ei eo el
    refine ⟨p, _, rfl, SqT.of hp, rfl, _, _, rfl, .ref pr, [], rfl, rfl, ?_⟩
    have hd2 := s2 _ _ hd
    -- machine
    refine zs_raw ?_
    refine ⟨.int M.inp, rfl, .int M.out, rfl, .int M.lead, rfl, .ref po, rfl, po, _, rfl, .inl (SqL.of hpo), fun L hL => ⟨.ref pr, rfl, pr, M.rows, rfl, hpr.same (Same.new hL), by omega, fun H3 fl s3 _ hfl => ?_⟩⟩
    have hd3 := s3 _ _ (keep_new hL hd2)
    have hL3 := s3 _ _ (show (upd H2 L (.lst (M.op.map V.int))) L = _ from upd_same)
    intro m dm hm hdm nem
    refine mkM1 hL3 hfl mk opl hm hdm nem fun H4 s4 hM4 => ?_
    have hd4 := s4 _ _ hd3
    clear hL3 hd3 hfl s3 hL hd2 hp hpo hpr s2
    refine zs_addtake rfl hd4 (by decide) fun sp sp0 sp1 => ?_
    obtain ⟨s, rfl⟩ : ∃ s : Nat, sp = (s : Int) := ⟨sp.toNat, by omega⟩
    have hlog : (s : Int).natAbs.log2 < 1920 := log_small (by omega) (by omega)
    have hsl : (sI (s : Int)).length ≤ 4 := sI_len (by omega) (by omega)
    -- journal
    refine zs_raw ?_
    refine ⟨.ref m, rfl, .int s, rfl, rfl, rfl, fun x dx hx hdx nex => ?_⟩
    refine mkJ1 hM4 hlog (by omega) hx hdx nex fun H5 s5 hJ5 => ?_
    have jk0 : JOk M (jNew M (s : Int)) := jNew_ok mk (by omega) (by omega)
    have hd5 := s5 _ _ hd4
    have hM5 := hM4.same s5
    have nmx : m ≠ x := by
      obtain ⟨_, _, _, _, h, _⟩ := hM4
      exact ne_of_none h hx
    clear hx hdx nex s5 hM4 hd4
    -- letters
    refine zs_raw ?_
    refine ⟨.ref d, rfl, d, 13, rfl, hd5, by decide, fun n n0 n1 => ⟨n, rfl, by omega, by omega, fun D hD => ?_⟩⟩
    refine lc_range (lo := 0) (n := n.toNat) (fun i H' => Same H5 H' ∧ ∃ os : List Int, H' D = some (.lst (os.map V.int)) ∧ os.length = i ∧ ∀ x ∈ os, 0 ≤ x ∧ x < M.inp) ⟨Same.new hD, [], upd_same, rfl, fun x h => by cases h⟩ ?_ ?_
    · rintro i H' hi ⟨sa, os, ho, hl, hx⟩
      refine ⟨rfl, ?_⟩
      refine ⟨.ref d, rfl, .int M.inp, rfl, d, M.inp, rfl, sa _ _ hd5, by omega, fun r r1 r2 => ⟨_, ho, smallL _ (by rw [List.length_map]; omega), Same.upd sa hD, os ++ [r], ?_, ?_, ?_⟩⟩
      · rw [upd_same, List.map_append]
        rfl
      · rw [List.length_append, hl]
        rfl
      · intro x hm
        rcases List.mem_append.mp hm with h | h
        · exact hx x h
        · rw [List.mem_singleton.mp h]
          exact ⟨r1, r2⟩
    rintro H6 ⟨s6, ls, hls, hln, hlr⟩
    have hd6 := s6 _ _ hd5
    have hM6 := hM5.same s6
    have hJ6 := hJ5.same s6
    have hl12 : ls.length ≤ 12 := by omega
    clear hD s6 hM5 hJ5 hd5 hln n0 n1 n
    have nDx : D ≠ x := by
      obtain ⟨dj, pj, h, _⟩ := hJ6
      exact ne_of hls h fun z => nomatch z
    have ndx : d ≠ x := by
      obtain ⟨dj, pj, h, _⟩ := hJ6
      exact ne_of hd6 h fun z => nomatch z
    have rok := run_ok mk jk0 rfl (show ls.length ≤ 100 by omega) hlr
    refine zs_forL (xs := ls.map V.int) (by k_upd) (SqL.of hls) (fun i σ H' => ∃ y, σ = [some (.ref a), some (.ref d), some (.int M.inp), some (.int M.out), some (.int M.lead), some (.ref po), some (.ref pr), some (.ref m), some (.int s), some (.ref x), some (.ref D), y, none, none, none, none, none, none, none, none, none] ∧
      Pp.Fr x H6 H' ∧ IsJ CJ H' x m (runJ M (jNew M (s : Int)) (ls.take i))) ⟨none, rfl, Pp.Fr.refl, hJ6⟩ ?_ ?_ ?_
    · rintro i σ' H' _ ⟨y, _, f, _⟩
      exact SqL.of (f _ _ hls nDx)
    · rintro i v σ' H' hv ⟨y, rfl, f, hJ⟩
      obtain ⟨l, hl, rfl⟩ := map_at hv
      have hlr2 := hlr l (List.mem_of_getElem? hl)
      obtain ⟨dj, pj, hj1, hj2⟩ := id hJ
      obtain ⟨dj6, pj6, hj61, _⟩ := id hJ6
      have rk := rok i
      refine z_rawd ?_
      refine ⟨.ref x, rfl, x, dj, _, rfl, hj1, rfl, .int l, rfl, x, m, l, _, M, rfl, hJ, hM6.fr hj61 nmx f, nmx, mk, rk.1, by have := rk.2; omega, fun bad => by omega, fun _ _ H'' p f2 hJ2 _ _ => ?_⟩
      exact ⟨_, rfl, f.trans f2, by rw [run_take hl]; exact hJ2⟩
    rintro σ' H7 ⟨y11, rfl, f7, hJ7⟩
    rw [List.length_map, List.take_length] at hJ7
    have rk7 := rok ls.length
    rw [List.take_length] at rk7
    have hM7 : IsMac CM H7 m M := by
      obtain ⟨dj6, pj6, hj61, _⟩ := id hJ6
      exact hM6.fr hj61 nmx f7
    have hd7 := f7 _ _ hd6 ndx
    have hls7 := f7 _ _ hls nDx
    clear hM6 hd6 hls hJ6 f7
    -- text
    have htx : tl (runJ M (jNew M (s : Int)) ls).text = joinNL (allL M s ls) := run_all mk jk0 (by omega) hlr
    have htl : (runJ M (jNew M (s : Int)) ls).text.length ≤ 400 := by
      exact text_len mk jk0 (by omega) hl12 hlr
    obtain ⟨dj, pj, hj7, hj72⟩ := id hJ7
    generalize hJF : runJ M (jNew M (s : Int)) ls = JF at *
    have hts : JF.text.length ≤ sizeLine := small _ (by omega)
    have hmul : ∀ u : Int, 0 ≤ u → u < 1000 → L2.CMul 1000 u := fun u _ _ => by
      unfold L2.CMul
      omega
    refine zs_raw ?_
    refine ⟨.ref x, rfl, x, CJ, dj, _, .str JF.text, rfl, hj7, by assumption, by assumption, rfl, ?_⟩
    refine ⟨.ref d, rfl, d, 1000, rfl, hd7, by decide, fun u u0 u1 => ⟨1000, u, rfl, rfl, hmul u u0 u1, ?_⟩⟩
    refine ⟨.ref d, rfl, d, 1000, rfl, hd7, by decide, fun v v0 v1 => ⟨1000 * u, v, rfl, rfl, ?_⟩⟩
    refine ⟨.ref x, rfl, x, CJ, dj, _, .str JF.text, rfl, hj7, by assumption, by assumption, rfl, ?_⟩
    refine ⟨JF.text, rfl, hts, ?_⟩
    refine ⟨_, 1, rfl, rfl, ?_⟩
    refine ⟨_, _, rfl, rfl, by omega, ?_⟩
    refine ⟨Int.fmod (1000 * u + v) ((JF.text.length : Int) + 1), rfl, ?_⟩
    have hcut := fmod_rng (1000 * u + v) (n := (JF.text.length : Int) + 1) (by omega)
    generalize Int.fmod (1000 * u + v) ((JF.text.length : Int) + 1) = n0 at hcut
    obtain ⟨n, rfl⟩ : ∃ n : Nat, n0 = (n : Int) := ⟨n0.toNat, by omega⟩
    refine ⟨JF.text, rfl, hts, ?_⟩
    have etext := cut_to JF.text n
    generalize cutS JF.text none (some (n : Int)) = text at etext
    have htl2 : text.length ≤ 400 := by
      rw [len_tl, etext, List.length_take, ← len_tl]
      omega
    have hts2 : text.length ≤ sizeLine := small _ (by omega)
    clear u0 u1 v0 v1 hcut hmul u v
    -- lines, kept
    refine zs_set (v := .int (Txt.count text NL)) (by k_upd) ?_
    have hk := kept_eq text
    refine zs_set (v := .str (cutS text none (some (Txt.rfind text NL + 1)))) (by k_upd) ?_
    generalize cutS text none (some (Txt.rfind text NL + 1)) = k at hk
    obtain ⟨mm, hmm⟩ := keptL_cut (allL M s ls) (allL_free M s ls) n
    rw [← htx, ← etext] at hmm
    have hkm : tl k = joinNL ((allL M s ls).take mm) := hk.trans hmm
    have hkl : k.length ≤ 400 := by
      obtain ⟨j, hj⟩ := keptL_pre (tl text)
      rw [len_tl, hk, hj, List.length_take, ← len_tl]
      omega
    refine zs_cut (M := fun σ' H' => ∃ z, σ' = [some (.ref a), some (.ref d), some (.int M.inp), some (.int M.out), some (.int M.lead), some (.ref po), some (.ref pr), some (.ref m), some (.int s), some (.ref x), some (.ref D), y11, some (.str z), some (.int (Txt.count text NL)), some (.str k), none, none, none, none, none, none] ∧
      Same H7 H' ∧ keptL (tl z) = tl k ∧ z.length ≤ 450) ?_ ?_
    · refine z_ifraw ?_
      refine ⟨.ref d, rfl, d, 3, rfl, hd7, by decide, fun r r0 r1 => ?_⟩
      refine ⟨rfl, _, rfl, ?_⟩
      by_cases hr0 : V.int r = V.int 0
      · rw [decide_eq_true hr0]
        refine iteT ?_
        refine z_raw ?_
        refine ⟨.str k, rfl, small 6, fun p hp => ⟨.ref d, rfl, d, 6, rfl, keep_new hp hd7, by decide, fun j j0 j1 => ?_⟩⟩
        have hjunk : ∃ junk : Str, atI [V.str ("heard" : Str), .str ("state 1" : Str), .str ("x" : Str), .str ("journal 9" : Str), .str ("heard 1 " : Str), .str ("state 99 99" : Str)] j = some (.str junk) ∧ 10 ∉ tl junk ∧ junk.length ≤ 20 := by
          have : j = 0 ∨ j = 1 ∨ j = 2 ∨ j = 3 ∨ j = 4 ∨ j = 5 := by omega
          rcases this with rfl | rfl | rfl | rfl | rfl | rfl
          · exact ⟨_, rfl, by decide, by decide⟩
          · exact ⟨_, rfl, by decide, by decide⟩
          · exact ⟨_, rfl, by decide, by decide⟩
          · exact ⟨_, rfl, by decide, by decide⟩
          · exact ⟨_, rfl, by decide, by decide⟩
          · exact ⟨_, rfl, by decide, by decide⟩
        obtain ⟨junk, hat, hj10, hjl⟩ := hjunk
        refine ⟨p, _, j, .str junk, rfl, rfl, SqL.of upd_same, hat, ?_⟩
        refine ⟨k, junk, rfl, rfl, small _ (by omega), ?_⟩
        refine ⟨_, rfl, Same.new hp, ?_, by rw [str_len]; omega⟩
        rw [tl_append, hkm, keptL_junk hj10]
      · rw [decide_eq_false hr0]
        refine iteF ?_
        exact ⟨text, rfl, Same.refl H7, hk.symm, by omega⟩
    rintro σ' H8 ⟨z, rfl, s8, hz, hzl⟩
    have hd8 := s8 _ _ hd7
    have hls8 := s8 _ _ hls7
    have hM8 := hM7.same s8
    clear s8 hd7 hls7 hM7 hJ7 hj7 hj72
    have hzm : keptL (tl z) = joinNL ((allL M s ls).take mm) := hz.trans hkm
    have hcnt := count_NL text
    rw [← hk, ← hz] at hcnt
    have nmD : ∀ y, IsMac CM H8 m M → H8 y = none → m ≠ y := fun y hM hy => by
      obtain ⟨_, _, _, _, h, _⟩ := hM
      exact ne_of_none h hy
    -- expected
    refine zs_raw ?_
    refine ⟨.ref m, rfl, fun x1 dx1 hx1 hdx1 ne1 => ?_⟩
    refine mkJ1 hM8 (by decide) (by decide) hx1 hdx1 ne1 fun H9 s9 hJ9 => ?_
    refine zs_cut (M := fun σ' H' => ∃ e, σ' = [some (.ref a), some (.ref d), some (.int M.inp), some (.int M.out), some (.int M.lead), some (.ref po), some (.ref pr), some (.ref m), some (.int s), some (.ref x), some (.ref D), y11, some (.str z), some (.int (Txt.count text NL)), some (.str k), some (.ref e), none, none, none, none, none] ∧
      Same H8 H' ∧ H8 e = none ∧ IsJ CJ H' e m (if keptL (tl z) = [] then jNew M 4 else jNew M (s : Int))) ?_ ?_
    · refine z_when (by k_ownIn) (fun e => ?_) (fun e => ?_)
      · rw [decide_eq_true_eq] at e
        refine z_raw ?_
        refine ⟨.ref m, rfl, .int s, rfl, rfl, rfl, fun x2 dx2 hx2 hdx2 ne2 => ?_⟩
        refine mkJ1 (hM8.same s9) hlog (by omega) hx2 hdx2 ne2 fun H' s' hJ' => ?_
        exact ⟨x2, rfl, s9.trans s', s9.free hx2, by rw [if_neg (hcnt.mp e)]; exact hJ'⟩
      · rw [decide_eq_false_iff_not] at e
        refine ⟨x1, rfl, s9, hx1, ?_⟩
        rw [if_pos (Classical.byContradiction fun h => e (hcnt.mpr h))]
        exact hJ9
    rintro σ' H10 ⟨e, rfl, s10, he8, hJ10⟩
    have hd10 := s10 _ _ hd8
    have hls10 := s10 _ _ hls8
    have hM10 := hM8.same s10
    have nme := nmD e hM8 he8
    clear hJ9 s9 hx1 hdx1 ne1 x1 dx1 H9 s10 he8 nmD hM8 hls8 hd8 H8
    -- count
    have hc := count_he hkm
    generalize hcc : cnt ((allL M s ls).take mm) = c at *
    refine zs_set (v := .int (c : Int)) (va_to (by k_upd) (congrArg V.int hc)) ?_
    have hrec := recov_cut mk jk0 (by omega) hlr hzm
    rw [hcc] at hrec
    have jk4 : JOk M (jNew M ((4 : Nat) : Int)) := jNew_ok mk (by decide) (by decide)
    have jkE : JOk M (if keptL (tl z) = [] then jNew M 4 else jNew M (s : Int)) := by
      split
      · exact jk4
      · exact jk0
    have hE0 : (if keptL (tl z) = [] then jNew M 4 else jNew M (s : Int)).heard = 0 := by
      split <;> rfl
    have hlt : (ls.take c).length ≤ 12 := by
      rw [List.length_take]
      omega
    have hltr : ∀ l ∈ ls.take c, 0 ≤ l ∧ l < M.inp := fun l h => hlr l (List.mem_of_mem_take h)
    have hrr : recov M (tl (runJ M (if keptL (tl z) = [] then jNew M 4 else jNew M (s : Int)) (ls.take c)).text) = some (runJ M (if keptL (tl z) = [] then jNew M 4 else jNew M (s : Int)) (ls.take c)) := by
      split
      · exact recov_run (s := 4) mk jk4 (by omega) hltr
      · exact recov_run mk jk0 (by omega) hltr
    have htl3 : (runJ M (if keptL (tl z) = [] then jNew M 4 else jNew M (s : Int)) (ls.take c)).text.length ≤ 400 := by
      split
      · exact text_len (s := 4) mk jk4 (by decide) hlt hltr
      · exact text_len mk jk0 (by omega) hlt hltr
    generalize (if keptL (tl z) = [] then jNew M 4 else jNew M (s : Int)) = J0 at *
    have rok2 := run_ok mk jkE hE0 (show (ls.take c).length ≤ 100 by omega) hltr
    have rokE := rok2 (ls.take c).length
    rw [List.take_length] at rokE
    -- expected hears
    have nDe : D ≠ e := by
      obtain ⟨dj, pj, h, _⟩ := hJ10
      exact ne_of hls10 h fun z => nomatch z
    have nde : d ≠ e := by
      obtain ⟨dj, pj, h, _⟩ := hJ10
      exact ne_of hd10 h fun z => nomatch z
    refine zs_forraw ?_
    refine ⟨.ref D, rfl, .int c, rfl, c, rfl, D, _, rfl, SqL.of hls10, fun b2 hb2 => ⟨b2, rfl, ⟨_, SqL.of upd_same⟩, ?_⟩⟩
    rw [cutV_to, ← List.map_take]
    have hd11 := keep_new (o' := .lst ((ls.take c).map V.int)) hb2 hd10
    have hM11 := hM10.same (Same.new (o' := .lst ((ls.take c).map V.int)) hb2)
    have hJ11 := hJ10.same (Same.new (o' := .lst ((ls.take c).map V.int)) hb2)
    have hb11 : (upd H10 b2 (.lst ((ls.take c).map V.int))) b2 = some (.lst ((ls.take c).map V.int)) := upd_same
    generalize upd H10 b2 (.lst ((ls.take c).map V.int)) = H11 at *
    have nbe : b2 ≠ e := by
      obtain ⟨dj, pj, h, _⟩ := hJ11
      exact ne_of hb11 h fun z => nomatch z
    refine for_list (xs := (ls.take c).map V.int) (fun i σ H' => ∃ y, σ = [some (.ref a), some (.ref d), some (.int M.inp), some (.int M.out), some (.int M.lead), some (.ref po), some (.ref pr), some (.ref m), some (.int s), some (.ref x), some (.ref D), y, some (.str z), some (.int (Txt.count text NL)), some (.str k), some (.ref e), some (.int c), none, none, none, none] ∧
      Pp.Fr e H11 H' ∧ IsJ CJ H' e m (runJ M J0 ((ls.take c).take i))) ⟨y11, rfl, Pp.Fr.refl, hJ11⟩ ?_ ?_ ?_
    · rintro i σ' H' _ ⟨y, _, f, _⟩
      exact SqL.of (f _ _ hb11 nbe)
    · rintro i v σ' H' hv ⟨y, rfl, f, hJ⟩
      obtain ⟨l, hl, rfl⟩ := map_at hv
      have hlr2 := hltr l (List.mem_of_getElem? hl)
      obtain ⟨dj, pj, hj1, hj2⟩ := id hJ
      obtain ⟨dj6, pj6, hj61, _⟩ := id hJ11
      have rk := rok2 i
      refine z_rawd ?_
      refine ⟨.ref e, rfl, e, dj, _, rfl, hj1, rfl, .int l, rfl, e, m, l, _, M, rfl, hJ, hM11.fr hj61 nme f, nme, mk, rk.1, by have := rk.2; omega, fun bad => by omega, fun _ _ H'' p f2 hJ2 _ _ => ?_⟩
      exact ⟨_, rfl, f.trans f2, by rw [run_take hl]; exact hJ2⟩
    rintro σ' H12 ⟨y, rfl, f12, hJ12⟩
    rw [List.length_map, List.take_length] at hJ12
    have hM12 : IsMac CM H12 m M := by
      obtain ⟨dj6, pj6, hj61, _⟩ := id hJ11
      exact hM11.fr hj61 nme f12
    have hd12 := f12 _ _ hd11 nde
    clear f12 hb11 nbe hJ11 hM11 hd11 hb2 hJ10 hM10 hls10 hd10
    generalize runJ M J0 (ls.take c) = JS at *
    dsimp only
    -- found
    refine zs_call (by k_places) ?_
    refine ⟨m, z, M, rfl, hM12, mk, by omega, fun J hJ H13 fo s13 hfo hJf _ => ?_, fun hn => (nomatch hrec.symm.trans hn)⟩
    obtain rfl : JS = J := Option.some.inj (hrec.symm.trans hJ)
    have hd13 := s13 _ _ hd12
    have hM13 := hM12.same s13
    have hJe13 := hJ12.same s13
    have nmf : m ≠ fo := by
      obtain ⟨_, _, _, _, h, _⟩ := hM12
      exact ne_of_none h hfo
    have nef : e ≠ fo := by
      obtain ⟨_, _, h, _⟩ := hJ12
      exact ne_of_none h hfo
    clear s13 hfo hJ12 hM12 hd12
    -- again
    obtain ⟨dxf, pof, hf1, hf2⟩ := id hJf
    refine zs_call (vs := [.ref m, .str JS.text]) (by k_places) ?_
    refine ⟨m, JS.text, M, rfl, hM13, mk, by omega, fun J hJ H14 ag s14 hag hJg _ => ?_, fun hn => (nomatch hrr.symm.trans hn)⟩
    obtain rfl : JS = J := Option.some.inj (hrr.symm.trans hJ)
    have hd14 := s14 _ _ hd13
    have hM14 := hM13.same s14
    have hJe14 := hJe13.same s14
    have hJf14 := hJf.same s14
    have nmg : m ≠ ag := by
      obtain ⟨_, _, _, _, h, _⟩ := hM13
      exact ne_of_none h hag
    have neg : e ≠ ag := by
      obtain ⟨_, _, h, _⟩ := hJe13
      exact ne_of_none h hag
    have nfg : fo ≠ ag := ne_of_none hf1 hag
    clear s14 hag hJf hJe13 hM13 hd13 hf1 hf2
    have ndf : d ≠ fo := by
      obtain ⟨_, _, h, _⟩ := hJf14
      exact ne_of hd14 h fun z => nomatch z
    have ndg : d ≠ ag := by
      obtain ⟨_, _, h, _⟩ := hJg
      exact ne_of hd14 h fun z => nomatch z
    have t1 : SVal (spSame CJ) ([.ref fo, .ref e] ++ []) H14 (.bl true) := fun Q E q => ⟨fo, e, m, m, JS, rfl, hJf14, hJe14, q⟩
    have t2 : SVal (spSame CJ) ([.ref ag, .ref e] ++ []) H14 (.bl true) := fun Q E q => ⟨ag, e, m, m, JS, rfl, hJg, hJe14, q⟩
    refine zs_when (b := false) (an_or (a := false) (an_not (a := true) (an_B (va_call (by k_places) t1))) (fun _ => an_not (a := true) (an_B (va_call (by k_places) t2)))) (fun e => nomatch e) (fun _ => ?_)
    clear t1 t2
    -- the turns
    refine zs_forraw ?_
    refine ⟨.ref d, rfl, d, 5, rfl, hd14, by decide, fun nn n0 n1 => ⟨nn, rfl, by omega, by omega, ?_⟩⟩
    refine for_range (lo := 0) (n := nn.toNat) (fun i σ H' => ∃ (ya yb yc : Option V) (J : Jn), σ = [some (.ref a), some (.ref d), some (.int M.inp), some (.int M.out), some (.int M.lead), some (.ref po), some (.ref pr), some (.ref m), some (.int s), some (.ref x), some (.ref D), ya, some (.str z), some (.int (Txt.count text NL)), some (.str k), some (.ref e), some (.int c), some (.ref fo), some (.ref ag), yb, yc] ∧
      H' d = some (DR d) ∧ IsMac CM H' m M ∧ IsJ CJ H' fo m J ∧ IsJ CJ H' e m J ∧ IsJ CJ H' ag m J ∧ JOk M J ∧ J.heard ≤ 100 + i) ⟨y, none, none, JS, rfl, hd14, hM14, hJf14, hJe14, hJg, rokE.1, by have := rokE.2; omega⟩ ?_ ?_
    · rintro i σ' H' hi ⟨ya, yb, yc, J, rfl, hd, hM, hJf, hJe, hJg, jk, hh⟩
      refine zs_raw ?_
      refine ⟨.ref d, rfl, .int M.inp, rfl, d, M.inp, rfl, hd, by omega, fun l l0 l1 => ?_⟩
      obtain ⟨dj, pj, hj1, hj2⟩ := id hJf
      refine zs_raw ?_
      refine ⟨.ref fo, rfl, fo, dj, _, rfl, hj1, rfl, .int l, rfl, fo, m, l, J, M, rfl, hJf, hM, nmf, mk, jk, by omega, fun bad => by omega, fun _ _ Ha p fa hJfa _ hp => ?_⟩
      have hMa := hM.fr hj1 nmf fa
      have hJea := hJe.fr hj1 nef fa
      have hJga := hJg.fr hj1 nfg.symm fa
      have hda := fa _ _ hd ndf
      refine z_ifraw ?_
      obtain ⟨dk, pk, hk1, hk2⟩ := id hJea
      refine ⟨.ref p, rfl, .ref e, rfl, e, dk, _, rfl, hk1, rfl, .int l, rfl, e, m, l, J, M, rfl, hJea, hMa, nme, mk, jk, by omega, fun bad => by omega, fun _ _ Hb p2 fb hJeb _ hp2 => ?_⟩
      have hMb := hMa.fr hk1 nme fb
      have hJfb := hJfa.fr hk1 nef.symm fb
      have hJgb := hJga.fr hk1 neg.symm fb
      have hdb := fb _ _ hda nde
      have hpb := fb _ _ hp (ne_of hp hk1 fun z => nomatch z)
      refine ⟨_, _, .lst (SqL.of hpb) (dpAll_ints _), .lst (SqL.of hp2) (dpAll_ints _), sh_lst _, sh_lst _, ?_⟩
      rw [eqv_lst]
      refine ⟨false, rfl, iteF ?_⟩
      obtain ⟨dl, pl, hl1, hl2⟩ := id hJgb
      refine ⟨.ref p, rfl, .ref ag, rfl, ag, dl, _, rfl, hl1, rfl, .int l, rfl, ag, m, l, J, M, rfl, hJgb, hMb, nmg, mk, jk, by omega, fun bad => by omega, fun _ _ Hc p3 fc hJgc _ hp3 => ?_⟩
      have hpc := fc _ _ hpb (ne_of hpb hl1 fun z => nomatch z)
      refine ⟨_, _, .lst (SqL.of hpc) (dpAll_ints _), .lst (SqL.of hp3) (dpAll_ints _), sh_lst _, sh_lst _, ?_⟩
      rw [eqv_lst]
      refine ⟨false, rfl, iteF ?_⟩
      refine ⟨_, _, _, _, rfl, fc _ _ hdb ndg, hMb.fr hl1 nmg fc, hJfb.fr hl1 nfg fc, hJeb.fr hl1 neg fc, hJgc, hear_ok mk jk l0 l1 (by omega), ?_⟩
      show J.heard + 1 ≤ 100 + ((i + 1 : Nat) : Int)
      omega
    rintro σ' H15 ⟨ya, yb, yc, J, rfl, hd15, hM15, hJf15, hJe15, hJg15, _, _⟩
    dsimp only
    have t1 : SVal (spSame CJ) ([.ref fo, .ref e] ++ []) H15 (.bl true) := fun Q E q => ⟨fo, e, m, m, J, rfl, hJf15, hJe15, q⟩
    have t2 : SVal (spSame CJ) ([.ref ag, .ref e] ++ []) H15 (.bl true) := fun Q E q => ⟨ag, e, m, m, J, rfl, hJg15, hJe15, q⟩
    refine zs_when (b := false) (an_or (a := false) (an_not (a := true) (an_B (va_call (by k_places) t1))) (fun _ => an_not (a := true) (an_B (va_call (by k_places) t2)))) (fun e => nomatch e) (fun _ => ?_)
    have hrk : recov M (tl k) = some JS := by
      rw [← hrec]
      refine recov_congr ?_
      rw [hkm, keptL_joinNL, hzm]
    refine z_rawr ?_
    refine ⟨.ref m, rfl, .str z, rfl, m, z, M, rfl, hM15, mk, by omega, fun Ja hJa H16 pa sa hpa hja _ => ?_, fun hn => (nomatch hrec.symm.trans hn)⟩
    obtain rfl : JS = Ja := Option.some.inj (hrec.symm.trans hJa)
    refine ⟨.ref m, rfl, .str k, rfl, m, k, M, rfl, hM15.same sa, mk, by omega, fun Jb hJb H17 pb sb hpb hjb _ => ?_, fun hn => (nomatch hrk.symm.trans hn)⟩
    obtain rfl : JS = Jb := Option.some.inj (hrk.symm.trans hJb)
    exact ⟨pa, pb, m, m, JS, rfl, hja.same sb, hjb, q _⟩
end
end Pk

namespace Pk
open PySem PySem.Spec PyProof.Rows L2 TL Pp
theorem facts {P : Program} {w : World} {K : PySem.W.Frag} {h : Heap} {mg : Str → Option Value} {f : Addr} (X : K.In h) (G : h.Ns mainGlobals mg) (hfa : mg ("law" : Str) = some (.ref f)) (c : SaysP fa fn pr K) :
    ∃ fd : FuncData, (∀ (s : Shared) (v : Value), BindsTo s fd ⟨[v], []⟩ [("script", v)]) ∧ ∀ base : Heap, K.In base → base.Ns mainGlobals mg → FnOk P w K mg base CX0 5 f fd ["script"] (spLaw K) := by
  have g : ∀ (i : Nat) (x : Str), fa[i]? = some (.glo x) → mg x = some (.ref (He.ga K x)) := fun i x e => He.glo_ok X G (c.d.fact i e)
  have fr : ∀ (i : Nat) (x : Str), fa[i]? = some (.free x) → mg x = none := fun i x e => He.free_ok X G (c.d.fact i e)
  have na : ∀ (i : Nat) (x f : Str), fa[i]? = some (.noat x f) → NoAttr K (He.ga K x) f := fun i x f e => He.noat_ok (c.d.fact i e)
  have xc : ∀ (i j : Nat) (x : Str), fa[i]? = some (.exc x) → fa[j]? = some (.glo x) → XC K mg x (He.ga K x) := fun i j x e e2 => by
    obtain ⟨h1, h2, h3, h4⟩ := He.exc_ok (c.d.fact i e)
    exact ⟨h1, g j x e2, h2, h3, h4⟩
  have T : T0 K mg (He.ga K "Journal") (He.ga K "Machine") (He.ga K "BadJournal") (He.ga K "InvalidLetter") (He.ga K "InvalidMachine") :=
    ⟨fr 15 _ rfl, fr 16 _ rfl, fr 17 _ rfl, fr 18 _ rfl, fr 19 _ rfl, fr 20 _ rfl, fr 21 _ rfl, He.str_ok X G (c.d.fact 22 (f := .str "DIGITS" "0123456789") rfl), He.cls_ok (c.d.fact 23 (f := .cls "Journal") rfl), He.cls_ok (c.d.fact 24 (f := .cls "Machine") rfl),
      na 25 _ _ rfl, na 26 _ _ rfl, na 27 _ _ rfl, na 28 _ _ rfl, na 29 _ _ rfl, na 30 _ _ rfl, na 31 _ _ rfl, na 32 _ _ rfl, na 33 _ _ rfl, na 34 _ _ rfl, na 35 _ _ rfl, xc 39 12 _ rfl rfl, xc 40 13 _ rfl rfl, xc 41 14 _ rfl rfl⟩
  have mkJ := He.mkr_ok (c.d.fact 37 (f := .mkr "Journal") rfl)
  have mkM := He.mkr_ok (c.d.fact 38 (f := .mkr "Machine") rfl)
  have meH := He.meth_ok (c.d.fact 36 (f := .meth "Journal" "hear") rfl)
  obtain ⟨fd0, F0⟩ := c.d.def_ 0 (d := dM "Journal" "__init__" "Journal.__init__" 7 0 [("spacing", .int 4)]) rfl
  obtain ⟨fd1, F1⟩ := c.d.def_ 1 (d := dM "Journal" "hear" "Journal.hear" 7 2 []) rfl
  obtain ⟨fd2, F2⟩ := c.d.def_ 2 (d := dG "read_number" 8) rfl
  obtain ⟨fd3, F3⟩ := c.d.def_ 3 (d := dG "read_letter" 9) rfl
  obtain ⟨fd4, F4⟩ := c.d.def_ 4 (d := dG "recover" 10) rfl
  obtain ⟨fd5, F5⟩ := c.d.def_ 5 (d := dG "all_below" 12) rfl
  obtain ⟨fd6, F6⟩ := c.d.def_ 6 (d := dM "Machine" "__init__" "Machine.__init__" 14 0 []) rfl
  obtain ⟨fd7, F7⟩ := c.d.def_ 7 (d := dG "_law_draws" 17) rfl
  obtain ⟨fd8, F8⟩ := c.d.def_ 8 (d := dG "_law_take" 18) rfl
  obtain ⟨fd9, F9⟩ := c.d.def_ 9 (d := dG "_law_flat" 19) rfl
  obtain ⟨fd10, F10⟩ := c.d.def_ 10 (d := dG "_law_machine" 20) rfl
  obtain ⟨fd11, F11⟩ := c.d.def_ 11 (d := dG "_law_same_journal" 21) rfl
  obtain ⟨fd12, F12⟩ := c.d.def_ 12 (d := dG "law" 22) rfl
  obtain ⟨PR, fdp, Fp⟩ := c.props 0 (p := ⟨"Journal", "said", ⟨("said", none), "said", "Journal.said", defArgs (inClass (topS 7) 1), defBody (inClass (topS 7) 1), defScope (inClass (topS 7) 1), [], []⟩⟩) rfl
  have e := hfa.symm.trans (g 0 "law" rfl)
  cases e
  have bL := FunD.bindsA (ps := ["script"]) F12 fun _ _ _ _ _ _ us hl => match us, hl with | [_], _ => rfl
  refine ⟨fd12, fun s v => bL s [v] rfl, fun base _ _ => ?_⟩
  have b1 := F1.bindsN (ps := ["self", "letter"]) fun _ _ _ _ _ _ us hl => match us, hl with | [_, _], _ => rfl
  have b2 := F2.bindsN (ps := ["word"]) fun _ _ _ _ _ _ us hl => match us, hl with | [_], _ => rfl
  have b3 := F3.bindsN (ps := ["line", "machine"]) fun _ _ _ _ _ _ us hl => match us, hl with | [_, _], _ => rfl
  have b4 := F4.bindsN (ps := ["machine", "text"]) fun _ _ _ _ _ _ us hl => match us, hl with | [_, _], _ => rfl
  have b5 := F5.bindsN (ps := ["numbers", "limit"]) fun _ _ _ _ _ _ us hl => match us, hl with | [_, _], _ => rfl
  have b6 := F6.bindsN (ps := ["self", "inputs", "outputs", "lead", "opening", "rows"]) fun _ _ _ _ _ _ us hl => match us, hl with | [_, _, _, _, _, _], _ => rfl
  have b7 := F7.bindsN (ps := ["script", "count"]) fun _ _ _ _ _ _ us hl => match us, hl with | [_, _], _ => rfl
  have b8 := F8.bindsN (ps := ["draws", "limit"]) fun _ _ _ _ _ _ us hl => match us, hl with | [_, _], _ => rfl
  have b9 := F9.bindsN (ps := ["rows"]) fun _ _ _ _ _ _ us hl => match us, hl with | [_], _ => rfl
  have b10 := F10.bindsN (ps := ["draws", "inputs", "outputs", "lead", "most"]) fun _ _ _ _ _ _ us hl => match us, hl with | [_, _, _, _, _], _ => rfl
  have b11 := F11.bindsN (ps := ["one", "two"]) fun _ _ _ _ _ _ us hl => match us, hl with | [_, _], _ => rfl
  have bp := Fp.bindsN (ps := ["self"]) fun _ _ _ _ _ _ us hl => match us, hl with | [_], _ => rfl
  obtain ⟨ds, vd, b0⟩ := FunD.binds0 (ps := ["self", "machine", "spacing"]) (kws := [("spacing", .int 4)]) F0 2 (by simp) rfl fun D doc pm an cdv ct us ks hl hk => match us, hl, ks, hk with | [_, _], _, [_], _ => ⟨_, _, _, _, _, _, rfl, rfl, rfl⟩
  obtain ⟨mv, k0⟩ := FunD.kbinds0 (ps := ["self", "machine", "spacing"]) (kws := [("spacing", .int 4)]) F0 2 ["spacing"] [] (fun us _ ws => us ++ ws) (by simp) (fun q h => by cases h) (fun r1 _ r3 => r1.append r3)
    fun D doc pm an cdv ct us mv ws hl hm hw => match us, hl, mv, hm, ws, hw with | [_, _], _, [], _, [_], _ => rfl
  have c8 : FC P w K mg base CX0 1 "_law_take" spTake := ⟨_, _, _, ok_take F8 T, g 6 "_law_take" rfl, F8.kp, b8⟩
  have c2 : FC P w K mg base (L2.CX P w) 1 "read_number" (spNum (He.ga K "BadJournal")) := ⟨_, _, _, ok_num F2 T, g 1 "read_number" rfl, F2.kp, b2⟩
  have c3 : FC P w K mg base (L2.CX P w) 2 "read_letter" (spLet (He.ga K "Machine") (He.ga K "BadJournal")) := ⟨_, _, _, ok_let F3 T c2, g 2 "read_letter" rfl, F3.kp, b3⟩
  have c5 : FC P w K mg base CX0 1 "all_below" (spAllBelow K) := ⟨_, _, _, ok_all_below F5, g 4 "all_below" rfl, F5.kp, b5⟩
  have c7 : FC P w K mg base CX0 1 "_law_draws" (spDraws K) := ⟨_, _, _, ok_draws F7 T, g 5 "_law_draws" rfl, F7.kp, b7⟩
  have c9 : FC P w K mg base CX0 1 "_law_flat" spFlat := ⟨_, _, _, ok_flat F9 T, g 7 "_law_flat" rfl, F9.kp, b9⟩
  have c10 : FC P w K mg base CX0 2 "_law_machine" spMach := ⟨_, _, _, ok_mach F10 T c8, g 8 "_law_machine" rfl, F10.kp, b10⟩
  have t1 : TC P w K mg base (L2.CX P w) 1 (He.ga K "Journal") "hear" (spHear (He.ga K "Journal") (He.ga K "Machine") (He.ga K "InvalidLetter")) := ⟨_, _, _, T.cJ, meH, ok_hear F1 T, b1⟩
  have m0 : KC P w K mg base CX0 1 "Journal" (He.ga K "Journal") (spJInit (He.ga K "Journal") (He.ga K "Machine")) [.int 4] := ⟨_, _, _, _, mkJ, ok_jinit F0 T, g 10 "Journal" rfl, b0, vd⟩
  have m0k : KK P w K mg base CX0 1 "Journal" (He.ga K "Journal") (spJInit (He.ga K "Journal") (He.ga K "Machine")) ["spacing"] (fun vs zs => vs ++ zs) := ⟨_, _, _, _, mkJ, ok_jinit F0 T, g 10 "Journal" rfl, k0⟩
  have m6 : KC P w K mg base (L2.CX P w) 2 "Machine" (He.ga K "Machine") (spMInit K (He.ga K "Machine") (He.ga K "InvalidMachine")) [] := ⟨_, _, _, _, mkM, ok_minit F6 T c5, g 11 "Machine" rfl, b6, .nil⟩
  have p0 : PC P w K mg base 1 (He.ga K "Journal") "said" (spSaid (He.ga K "Journal")) := ⟨_, _, _, _, T.cJ, PR, ok_said Fp T, bp⟩
  have c4 : FC P w K mg base (L2.CX P w) 3 "recover" (spRec (He.ga K "Journal") (He.ga K "Machine") (He.ga K "BadJournal")) := ⟨_, _, _, ok_rec F4 T c2 c3 t1 m0 m0k, g 3 "recover" rfl, F4.kp, b4⟩
  have c11 : FC P w K mg base CX0 3 "_law_same_journal" (spSame (He.ga K "Journal")) := ⟨_, _, _, ok_same F11 T p0, g 9 "_law_same_journal" rfl, F11.kp, b11⟩
  exact ok_law F12 T c7 c8 c10 m6 c9 m0 m0k t1 c4 c11
end Pk

open PySem PySem.W PySem.Calls PyProof.Rows
theorem PySem.Challenge.cw_promiseplay_k62_whole_recovery_holds : PySem.Challenge.rw_promiseplay_k62_whole_recovery.Holds := by
  w_on; o_law
  refine HandSHeadRun.head_any (r := OpenLaw.row PySem.Challenge.rw_promiseplay_k62_whole_recovery) (q := view (OpenLaw.row PySem.Challenge.rw_promiseplay_k62_whole_recovery).prog [22]) (H := Pk.hk) (ob := Pk.ob) (M := 3000) (loose := Pk.loose) (d := HandSHeadRun.topDef (OpenLaw.row PySem.Challenge.rw_promiseplay_k62_whole_recovery).prog 22) (kwd := []) Pk.ob_eq
    (by kernel_rfl) (fun s => by kernel_rfl) Pk.run (by kernel_rfl) (by kernel_rfl) (by kernel_rfl) (by rfl) (by first | assumption | decide +kernel) (by decide +kernel) ⟨rfl, rfl, rfl, rfl, rfl, by decide +kernel⟩ ?hw ?hc
  case hw => w_witness2
  case hc =>
    refine L2.walk_ofE (l := PySem.Challenge.rw_promiseplay_k62_whole_recovery) (n := 63) (k := 5) (x := "script") (CX := L2.CX0) rfl (by decide) (by kernel_rfl) ⟨rfl, by decide, by decide⟩ ?F (fun _ _ _ _ z => z)
    intro w mg fa h Y G hmg0
    obtain ⟨K, KX, c⟩ := Y
    have hmg : mg ("law" : PySem.Str) = some (.ref fa) := by
      have e : (HandSHeadRun.topDef (OpenLaw.row PySem.Challenge.rw_promiseplay_k62_whole_recovery).prog 22).name = ("law" : PySem.Str) := by kernel_rfl
      rw [← e]
      exact hmg0
    obtain ⟨fd, hb, hF⟩ := Pk.facts (P := (PySem.Challenge.rw_promiseplay_k62_whole_recovery).prog) (w := w) KX G hmg c
    exact ⟨K, fd, Pk.spLaw K, KX, hb, fun H a ns hl _ hS => ⟨a, ns, rfl, hS, by omega, fun _ => rfl⟩, hF⟩

