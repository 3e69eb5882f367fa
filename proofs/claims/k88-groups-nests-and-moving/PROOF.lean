import PyProof.Rows.All
import Wide.All
import OpenK.AllK
import Wide.FinOn
import HandS.ForMost
import HandS.Evl
import HandS.Zip
import HandS.DictComp
import HandS.Gcd
import HandS.Wide
import HandS.WideMore
import HandS.Style
import HandS.TupAny
import HandS.TupMul
import HandS.IsInst
import HandS.Walk
import HandS.Defaults
import HandS.TupSets
import HandS.SetBool
import HandS.SortOrd
import KE.DataFind
import KE.GoesNew
import HandS.NoneIn
import HandS.WordsExc
import HandS.Head0
import HandS.Head1
import HandS.Head2
import HandS.Head3
import HandS.HeadEnd
import HandS.HeadHook1
import HandS.HeadHook2
import HandS.HeadHook3
import HandS.HeadHook4
import HandS.Ends
import PySem.Challenge.RW_differwithin_k88_groups_nests_and_moving
set_option Elab.async false
set_option linter.all false
set_option maxRecDepth 100000
set_option maxHeartbeats 4000000
namespace K88
open PySem L2 Evl
def topS (i : Nat) : Stmt := PySem.Challenge.pw_differwithin_k88_groups_nests_and_moving.main.body.getD i (.Pass ⟨0, 0, 0, 0⟩)
abbrev FnP (K : PySem.W.Frag) (x q : Str) (st : Stmt) (f : Addr) (fd : FuncData) : Prop := FunD K x q (defArgs st) (defBody st) (defScope st) [] [] f fd

/-! ### what a caller holds of a def, a class -/
structure Has (P : Program) (w : World) (K : PySem.W.Frag) (mg : Str → Option Value) (base : Heap) (x : Str) (ps : List Str) (k : Nat) (sp : Sp) : Prop where
  ex : ∃ (f : Addr) (fd : FuncData), mg x = some (.ref f) ∧ PySem.W.keepIn K (.ref f) = true ∧ Binds K fd ps [] ∧ FnOk P w K mg base CX0 k f fd ps sp
structure HasM (P : Program) (w : World) (K : PySem.W.Frag) (mg : Str → Option Value) (base : Heap) (C : Addr) (m : Str) (ps : List Str) (k : Nat) (sp : Sp) : Prop where
  ex : ∃ (f : Addr) (fd : FuncData), Meth K C m f ∧ Binds K fd ps [] ∧ FnOk P w K mg base CX0 k f fd ps sp
structure HasC (P : Program) (w : World) (K : PySem.W.Frag) (mg : Str → Option Value) (base : Heap) (x : Str) (C : Addr) (ps : List Str) (k : Nat) (sp : Sp) : Prop where
  ex : ∃ (f : Addr) (fd : FuncData), mg x = some (.ref C) ∧ Mk K C f ∧ Binds K fd ps [] ∧ FnOk P w K mg base CX0 k f fd ps sp
section
variable {X : Cx} {x m : Str} {ps : List Str} {k : Nat} {sp : Sp} {e o : Expr} {es : List Expr} {t : TA} {ta : TE} {p pos apos : Pos} {C : Addr}
theorem pe_callH (h : Has X.prog X.w X.K X.mg X.base x ps k sp) (hr : Room k X.A) (hg : Gl X x) (ha : PA X (e :: es) t) (hdb : (x == ("__debug__" : Str)) = false := by decide +kernel)
    (he : starEach (e :: es) X.env = (false, eval e X.env) :: starEach es X.env := by rfl) (hpl : (backTo pos (starEach es X.env)).any (·.1) = false := by rfl) : PE X (.Call (.Name x p) (e :: es) [] pos) (tCall sp [] E0 t) := by
  obtain ⟨f, fd, hm, hk, hb, F⟩ := h.ex
  exact pe_call F hr hg hm hk hb .nil pass0 ha hdb he hpl
theorem pe_methH {pl : Sem Bool} (hO : PE X o ta) (c : Cls X.K C) (h : HasM X.prog X.w X.K X.mg X.base C m ps k sp) (hr : Room k X.A) (ha : PA X (e :: es) t)
    (hst : starEach (e :: es) X.env = (false, eval e X.env) :: starEach es X.env := by rfl) (hpl : (backTo pos (starEach es X.env)).any (·.1) = false := by rfl)
    (ht : eval (.Call (.Attribute o m apos) (e :: es) [] pos) X.env = (do
      let ov ← eval o X.env
      standAt apos.atName
      let (f, first) ← holding [ov] (getMethod ov m pl)
      callWith pos f first (backTo pos (starEach (e :: es) X.env)) (backToKw pos (keywordEach [] X.env))) := by rfl) : PE X (.Call (.Attribute o m apos) (e :: es) [] pos) (tMeth C m sp [] E0 ta t) := by
  obtain ⟨f, fd, hm, hb, F⟩ := h.ex
  exact pe_meth hO c hm F hr hb .nil pass0 ha hst hpl ht
theorem pe_methH0 {pl : Sem Bool} (hO : PE X o ta) (c : Cls X.K C) (h : HasM X.prog X.w X.K X.mg X.base C m ps k sp) (hr : Room k X.A)
    (ht : eval (.Call (.Attribute o m apos) [] [] pos) X.env = (do
      let ov ← eval o X.env
      standAt apos.atName
      let (f, first) ← holding [ov] (getMethod ov m pl)
      callWith pos f first (backTo pos (starEach [] X.env)) (backToKw pos (keywordEach [] X.env))) := by rfl) : PE X (.Call (.Attribute o m apos) [] [] pos) (tMeth C m sp [] E0 ta tNil) := by
  obtain ⟨f, fd, hm, hb, F⟩ := h.ex
  exact pe_meth0 hO c hm F hr hb .nil pass0 ht
theorem pe_makeH (h : HasC X.prog X.w X.K X.mg X.base x C ps k sp) (hr : Room (k + 1) X.A) (hg : Gl X x) (ha : PA X (e :: es) t) (hdb : (x == ("__debug__" : Str)) = false := by decide +kernel)
    (he : starEach (e :: es) X.env = (false, eval e X.env) :: starEach es X.env := by rfl) (hpl : (backTo pos (starEach es X.env)).any (·.1) = false := by rfl) : PE X (.Call (.Name x p) (e :: es) [] pos) (tMake C sp [] E0 t) := by
  obtain ⟨f, fd, hm, M, hb, F⟩ := h.ex
  exact pe_make M F hr hg hm hb .nil pass0 ha hdb he hpl
end
/-! ### the rules whose readings speak of the written part, K told (within a comprehension's block it must not hang on the block) -/
section
variable {X : Cx} {e : Expr} {es : List Expr} {ta te : TE} {t : TA} {p pos tpos : Pos} {f : Str} (K : PySem.W.Frag) (hK : X.K = K)
include hK
theorem pe_fldK (he : PE X e ta) (hb : attributeBase e f X.env (eval e X.env) = eval e X.env) : PE X (.Attribute e f pos) (tFld K ta f) := hK ▸ pe_fld he hb
theorem ix_listK : IxR X (rIxL K) := hK ▸ ix_list
theorem ix_tupK : IxR X (rIxT K) := hK ▸ ix_tup
theorem pg_tupK {k n : Nat} {t : TGs} (hc : X.calm = true) (h : PGs X es t) (hn : (assignEach es X.env).length = n := by rfl) (hst : (assignEach es X.env).findIdx? (·.1) = none := by rfl) : PG X (.Tuple es k pos) (gTup K n t) := hK ▸ pg_tup hc h hn hst
theorem pi_listK {tg : Expr} (he : PE X e te) : PI X tg e (iList K te) := hK ▸ pi_list he
theorem pi_tupK {tg : Expr} (he : PE X e te) : PI X tg e (iTup K te) := hK ▸ pi_tup he
theorem call_lenK : CallR X (.builtin "len") (fun xs H Q => ∃ p ys, xs = [.ref p] ∧ (SqL K H p ys ∨ SqT K H p ys) ∧ Q (.int ys.length) H) := hK ▸ call_len_seq
theorem cr_sumK (hc : X.calm = true) : CallR X (.builtin "sum") (rSum K) := hK ▸ cr_sum hc
theorem cr_allK (hc : X.calm = true) : CallR X (.builtin "all") (rAll K) := hK ▸ cr_all hc
theorem cr_anyK (hc : X.calm = true) : CallR X (.builtin "any") (rAny K) := hK ▸ cr_any hc
theorem call_isiK : CallR X (.builtin "isinstance") (rIsi K) := hK ▸ call_isi
theorem call_list_ofK : CallR X (.type "list") (fun xs H Q => ∃ p ys, xs = [.ref p] ∧ (SqL K H p ys ∨ SqT K H p ys) ∧ ∀ l, H l = none → Q (.ref l) (upd H l (.lst ys))) := hK ▸ call_list_of
theorem call_tuple_ofK : CallR X (.type "tuple") (fun xs H Q => ∃ p ys, xs = [.ref p] ∧ ((SqL K H p ys ∧ ∀ l, H l = none → Q (.ref l) (upd H l (.tup ys))) ∨ (SqT K H p ys ∧ Q (.ref p) H))) := hK ▸ call_tuple_of
theorem pi_zipAK {e2 : Expr} {elts : List Expr} {kk : Nat} (hg : Gl X "zip") (hm : X.mg "zip" = none) (ha : PA X [e, e2] t) (hs : starEach [e, e2] X.env = (false, eval e X.env) :: starEach [e2] X.env := by rfl) (hpl : (backTo pos (starEach [e2] X.env)).any (·.1) = false := by rfl) :
    PI X (.Tuple elts kk tpos) (.Call (.Name "zip" p) [e, e2] [] pos) (RZ.iZipA K t) := hK ▸ RZ.pi_zipA hg hm ha hs hpl
theorem pi_zipK {e2 : Expr} {elts : List Expr} {kk : Nat} (hg : Gl X "zip") (hm : X.mg "zip" = none) (ha : PA X [e, e2] t) (hs : starEach [e, e2] X.env = (false, eval e X.env) :: starEach [e2] X.env := by rfl) (hpl : (backTo pos (starEach [e2] X.env)).any (·.1) = false := by rfl) :
    PI X (.Tuple elts kk tpos) (.Call (.Name "zip" p) [e, e2] [] pos) (iZip K t) := hK ▸ pi_zip hg hm ha hs hpl
theorem pi_enumK {elts : List Expr} {kk : Nat} (hg : Gl X "enumerate") (hm : X.mg "enumerate" = none) (ha : PA X [e] t) (hs : starEach [e] X.env = [(false, eval e X.env)] := by rfl) :
    PI X (.Tuple elts kk tpos) (.Call (.Name "enumerate" p) [e] [] pos) (iEnum K t) := hK ▸ pi_enum hg hm ha hs
theorem op_neDK (hu : X.A.units + 64 < cLine) : OpR X (compareOp .NotEq) (rNeD K) := hK ▸ op_neD hu
theorem op_eqDK (hu : X.A.units + 64 < cLine) : OpR X (compareOp .Eq) (rEqD K) := hK ▸ op_eqD hu
theorem op_catAK : OpR X (binaryOp .Add) (rCatA K) := hK ▸ op_catA
theorem op_repTK : OpR X (binaryOp .Mult) (rRepT K) := hK ▸ op_repT
theorem sl_tupAK : SlR X (rSlA K) := hK ▸ sl_tupA
theorem sl_listK : SlR X (rSlL K) := hK ▸ sl_list
theorem ix_seqK : IxR X (rIx K) := hK ▸ ix_seq
end
/-- the built-ins that the text names are no names of its own -/
structure Bt (mg : Str → Option Value) : Prop where
  m_len : mg "len" = none
  m_sum : mg "sum" = none
  m_zip : mg "zip" = none
  m_all : mg "all" = none
  m_any : mg "any" = none
  m_abs : mg "abs" = none
  m_max : mg "max" = none
  m_int : mg "int" = none
  m_bool : mg "bool" = none
  m_str : mg "str" = none
  m_tuple : mg "tuple" = none
  m_list : mg "list" = none
  m_range : mg "range" = none
  m_enumerate : mg "enumerate" = none
  m_isinstance : mg "isinstance" = none
  m_sorted : mg "sorted" = none

/-! ### data: ints, texts, tuples of them -/
inductive Da where
  | i (n : Int)
  | s (x : Str)
  | t (l : List Da)
mutual
def Rep (K : PySem.W.Frag) (H : Hp) : V → Da → Prop
  | v, .i n => v = .int n
  | v, .s x => v = .str x
  | v, .t l => ∃ (a : Addr) (vs : List V), v = .ref a ∧ H a = some (.tup vs) ∧ Reps K H vs l
def Reps (K : PySem.W.Frag) (H : Hp) : List V → List Da → Prop
  | vs, [] => vs = []
  | vs, d :: l => ∃ v r, vs = v :: r ∧ Rep K H v d ∧ Reps K H r l
end
section
variable {K : PySem.W.Frag} {H H' : Hp}
mutual
theorem Rep.ex (e : Ex H H') : ∀ {v : V} {d : Da}, Rep K H v d → Rep K H' v d
  | _, .i _, h => h
  | _, .s _, h => h
  | _, .t l, h => by
    unfold Rep at h ⊢
    obtain ⟨a, vs, e1, e2, e3⟩ := h
    exact ⟨a, vs, e1, e _ _ e2, Reps.ex e e3⟩
theorem Reps.ex (e : Ex H H') : ∀ {vs : List V} {l : List Da}, Reps K H vs l → Reps K H' vs l
  | _, [], h => h
  | _, d :: l, h => by
    unfold Reps at h ⊢
    obtain ⟨v, r, e1, e2, e3⟩ := h
    exact ⟨v, r, e1, Rep.ex e e2, Reps.ex e e3⟩
end
theorem Reps.len : ∀ {vs : List V} {l : List Da}, Reps K H vs l → vs.length = l.length
  | _, [], h => by unfold Reps at h; rw [h] <;> rfl
  | _, d :: l, h => by
    unfold Reps at h
    obtain ⟨v, r, e1, e2, e3⟩ := h
    rw [e1, List.length_cons, List.length_cons, Reps.len e3]
theorem Reps.get : ∀ {vs : List V} {l : List Da} {i : Nat} {v : V}, Reps K H vs l → vs[i]? = some v → ∃ d, l[i]? = some d ∧ Rep K H v d
  | _, [], i, v, h, e => by unfold Reps at h; rw [h] at e; simp at e
  | _, d :: l, 0, v, h, e => by
    unfold Reps at h
    obtain ⟨v0, r, e1, e2, e3⟩ := h
    rw [e1] at e
    have e4 : v0 = v := by simpa using e
    exact ⟨d, rfl, e4 ▸ e2⟩
  | _, d :: l, i + 1, v, h, e => by
    unfold Reps at h
    obtain ⟨v0, r, e1, e2, e3⟩ := h
    rw [e1] at e
    obtain ⟨d', h1, h2⟩ := Reps.get e3 (i := i) (v := v) (by simpa using e)
    exact ⟨d', by simpa using h1, h2⟩
theorem Reps.at_ {vs : List V} {l : List Da} {i : Nat} {d : Da} (h : Reps K H vs l) (e : l[i]? = some d) : ∃ v, vs[i]? = some v ∧ Rep K H v d := by
  have hl := h.len
  obtain ⟨hi, _⟩ := List.getElem?_eq_some_iff.mp e
  have hv : vs[i]? = some (vs[i]'(by omega)) := List.getElem?_eq_getElem (by omega)
  obtain ⟨d', h1, h2⟩ := h.get hv
  rw [e] at h1
  cases h1
  exact ⟨_, hv, h2⟩
theorem Reps.ints : ∀ {vs : List V} {ns : List Int}, Reps K H vs (ns.map Da.i) ↔ vs = ns.map V.int
  | vs, [] => by unfold Reps; rfl
  | vs, n :: ns => by
    show Reps K H vs (Da.i n :: ns.map Da.i) ↔ _
    unfold Reps
    constructor
    · rintro ⟨v, r, rfl, e2, e3⟩
      unfold Rep at e2
      rw [e2, Reps.ints.mp e3]
      rfl
    · intro h
      exact ⟨.int n, ns.map V.int, h, by unfold Rep; rfl, Reps.ints.mpr rfl⟩
/-- a tuple of ints, a tuple of tuples of ints -/
def di (ns : List Int) : Da := .t (ns.map Da.i)
def dii (c : List (List Int)) : Da := .t (c.map di)
theorem rep_di {v : V} {ns : List Int} : Rep K H v (di ns) ↔ ∃ a, v = .ref a ∧ H a = some (.tup (ns.map V.int)) := by
  unfold di Rep
  constructor
  · rintro ⟨a, vs, rfl, h1, h2⟩
    rw [Reps.ints.mp h2] at h1
    exact ⟨a, rfl, h1⟩
  · rintro ⟨a, rfl, h1⟩
    exact ⟨a, _, rfl, h1, Reps.ints.mpr rfl⟩
end
end K88

set_option maxHeartbeats 4000000
namespace K88
open PySem L2 Evl
/-! ### evaluation to something of which P holds -/
def EvP (te : TE) (σ : L2.St) (H : Hp) (P : V → Hp → Prop) : Prop := ∀ H1, Ex H H1 → ∀ Q : VK, (∀ v H2, Ex H1 H2 → P v H2 → Q v H2) → te σ H1 Q
def RetP (P : V → Hp → Prop) (H : Hp) (Q : VK) : Prop := ∀ v H2, Ex H H2 → P v H2 → Q v H2
def Sta (P : V → Hp → Prop) : Prop := ∀ v H H', Ex H H' → P v H → P v H'
def IsL (xs : List V) : V → Hp → Prop := fun v H => ∃ p, v = .ref p ∧ H p = some (.lst xs)
def IsU (xs : List V) : V → Hp → Prop := fun v H => ∃ p, v = .ref p ∧ H p = some (.tup xs)
theorem sta_L {xs : List V} : Sta (IsL xs) := fun _ _ _ e ⟨p, h1, h2⟩ => ⟨p, h1, e _ _ h2⟩
theorem sta_U {xs : List V} : Sta (IsU xs) := fun _ _ _ e ⟨p, h1, h2⟩ => ⟨p, h1, e _ _ h2⟩
theorem sta_rep {K : PySem.W.Frag} {d : Da} : Sta (fun v H => Rep K H v d) := fun _ _ _ e h => h.ex e
theorem sta_eq {x : V} : Sta (fun v _ => v = x) := fun _ _ _ _ h => h
section
variable {K : PySem.W.Frag} {σ : L2.St} {H H' : Hp} {ta tb te tx : TE} {t u : TT} {x y z v : V} {r : R2} {P P' : V → Hp → Prop}
theorem EvP.mono (e : Ex H H') (h : EvP te σ H P) : EvP te σ H' P := fun H1 a Q q => h H1 (e.trans a) Q q
theorem EvP.weak (h : EvP te σ H P) (w : ∀ v H2, Ex H H2 → P v H2 → P' v H2) : EvP te σ H P' := fun H1 e Q q => h H1 e Q fun v H2 e2 p => q v H2 e2 (w v H2 (e.trans e2) p)
theorem ep_v (h : Ev te σ H v) : EvP te σ H (fun x _ => x = v) := fun H1 e Q q => h H1 e Q fun H2 e2 => q v H2 e2 rfl
theorem ep_L {xs : List V} (h : EvL te σ H xs) : EvP te σ H (IsL xs) := fun H1 e Q q => h H1 e Q fun p H2 hp e2 h2 => q _ H2 e2 ⟨p, rfl, h2⟩
theorem ep_U {xs : List V} (h : EvU te σ H xs) : EvP te σ H (IsU xs) := fun H1 e Q q => h H1 e Q fun p H2 hp e2 h2 => q _ H2 e2 ⟨p, rfl, h2⟩
/-- the value of P, by what P says -/
theorem ev_of (h : EvP te σ H P) (w : ∀ v' H2, P v' H2 → v' = v) : Ev te σ H v := fun H1 e Q q => h H1 e Q fun v' H2 e2 p => by rw [w v' H2 p]; exact q H2 e2
/-! calls -/
def SpP (sp : Sp) (vs : List V) (H : Hp) (P : V → Hp → Prop) : Prop := ∀ H1, Ex H H1 → ∀ Q : VK, RetP P H1 Q → ∀ E : XK, sp vs H1 Q E
theorem ep_call {sp : Sp} {vs : List V} {E : XK} {ta : TA} (h : EvA ta σ H vs) (hs : SpP sp vs H P) : EvP (tCall sp [] E ta) σ H P := fun H1 e Q q =>
  h H1 e _ fun H2 e2 => by
    show sp (vs ++ []) H2 Q E
    rw [List.append_nil]
    exact hs H2 (e.trans e2) Q (fun v H3 e3 p => q v H3 (e2.trans e3) p) E
theorem ev_callV {sp : Sp} {vs : List V} {E : XK} {ta : TA} (h : EvA ta σ H vs) (hs : ∀ H1, Ex H H1 → ∀ Q : VK, RetV z H1 Q → ∀ E : XK, sp vs H1 Q E) : Ev (tCall sp [] E ta) σ H z := fun H1 e Q q =>
  h H1 e _ fun H2 e2 => by
    show sp (vs ++ []) H2 Q E
    rw [List.append_nil]
    exact hs H2 (e.trans e2) Q (fun H3 e3 => q H3 (e2.trans e3)) E
/-! operands -/
theorem ev_opP {P : V → Hp → Prop} (ha : Ev ta σ H x) (hb : EvP tb σ H P) (hr : ∀ y H1, Ex H H1 → P y H1 → RV r x y H1 z) : Ev (tOp r ta tb) σ H z := fun H1 e Q q =>
  ha H1 e _ fun H2 e2 => hb H2 (e.trans e2) _ fun y H3 e3 hp => hr y H3 ((e.trans e2).trans e3) hp H3 (Ex.refl H3) Q fun H4 e4 => q H4 ((e2.trans e3).trans e4)
theorem ev_cbP {rr : List V → Hp → VK → Prop} (ha : EvP ta σ H P) (hr : ∀ x H1, Ex H H1 → P x H1 → RC rr [x] H1 z) : Ev (tCB rr (tCons ta tNil)) σ H z := fun H1 e Q q =>
  ha H1 e _ fun x H2 e2 hp => hr x H2 (e.trans e2) hp H2 (Ex.refl H2) Q fun H3 e3 => q H3 (e2.trans e3)
theorem ep_cbP {rr : List V → Hp → VK → Prop} (ha : EvP ta σ H P) (hr : ∀ x H1, Ex H H1 → P x H1 → ∀ Q : VK, RetP P' H1 Q → rr [x] H1 Q) : EvP (tCB rr (tCons ta tNil)) σ H P' := fun H1 e Q q =>
  ha H1 e _ fun x H2 e2 hp => hr x H2 (e.trans e2) hp Q fun v H3 e3 p => q v H3 (e2.trans e3) p
abbrev rLen (K : PySem.W.Frag) : List V → Hp → VK → Prop := fun xs H Q => ∃ p ys, xs = [.ref p] ∧ (SqL K H p ys ∨ SqT K H p ys) ∧ Q (.int ys.length) H
theorem ev_lenT {p : Addr} {xs : List V} (ha : Ev ta σ H (.ref p)) (h : H p = some (.tup xs)) : Ev (tCB (rLen K) (tCons ta tNil)) σ H (.int (xs.length : Int)) := fun H1 e Q q =>
  ha H1 e _ fun H2 e2 => ⟨p, xs, rfl, Or.inr (ex_t (e.trans e2) (st_of h)), q H2 e2⟩
theorem ev_lenL {p : Addr} {xs : List V} (ha : Ev ta σ H (.ref p)) (h : H p = some (.lst xs)) : Ev (tCB (rLen K) (tCons ta tNil)) σ H (.int (xs.length : Int)) := fun H1 e Q q =>
  ha H1 e _ fun H2 e2 => ⟨p, xs, rfl, Or.inl (ex_l (e.trans e2) (sq_of h)), q H2 e2⟩
theorem ev_sum {ns : List Int} (ha : EvP ta σ H (IsL (ns.map V.int))) : Ev (tCB (rSum K) (tCons ta tNil)) σ H (.int ns.sum) :=
  ev_cbP ha fun x H1 e ⟨p, h1, h2⟩ H2 e2 Q q => ⟨p, ns, by rw [h1], sq_of (e2 _ _ h2), q H2 (Ex.refl H2)⟩
theorem ev_all {bs : List Bool} (ha : EvP ta σ H (IsL (bs.map V.bl))) : Ev (tCB (rAll K) (tCons ta tNil)) σ H (.bl (bs.all id)) :=
  ev_cbP ha fun x H1 e ⟨p, h1, h2⟩ H2 e2 Q q => ⟨p, bs, by rw [h1], sq_of (e2 _ _ h2), q H2 (Ex.refl H2)⟩
theorem ev_any {bs : List Bool} (ha : EvP ta σ H (IsL (bs.map V.bl))) : Ev (tCB (rAny K) (tCons ta tNil)) σ H (.bl (bs.any id)) :=
  ev_cbP ha fun x H1 e ⟨p, h1, h2⟩ H2 e2 Q q => ⟨p, bs, by rw [h1], sq_of (e2 _ _ h2), q H2 (Ex.refl H2)⟩
/-! numbers -/
theorem rv_mulW {i j : Int} {a b : Nat} (ha : i.natAbs < 2 ^ a) (hb : j.natAbs < 2 ^ b) (h : a + b ≤ 900000) : RV (rI CMulW fun i j => .int (i * j)) (.int i) (.int j) H (.int (i * j)) :=
  rv_I (wide_mul (a := a + 1) (b := b + 1) (Nat.lt_of_lt_of_le ha (Nat.pow_le_pow_right (by decide) (Nat.le_succ a))) (Nat.lt_of_lt_of_le hb (Nat.pow_le_pow_right (by decide) (Nat.le_succ b))) (Nat.succ_pos _) (Nat.succ_pos _) (by omega))
theorem rv_fdivW {i j : Int} {b : Nat} (h0 : 0 < j) (hb : j.natAbs < 2 ^ b) (h : b ≤ 8000) : RV (rI CDivW fun i j => .int (i / j)) (.int i) (.int j) H (.int (i / j)) :=
  rv_I (wide_div (b := b + 1) h0 (Nat.lt_of_lt_of_le hb (Nat.pow_le_pow_right (by decide) (Nat.le_succ b))) (Nat.succ_pos _) (by omega))
/-! items -/
theorem rv_ixT' {p : Addr} {xs : List V} {i : Nat} (h : H p = some (.tup xs)) (ha : xs[i]? = some v) : RV (rIxT K) (.ref p) (.int (i : Int)) H v := rv_ixT (st_of h) (atI_nat ha)
theorem rv_ixL' {p : Addr} {xs : List V} {i : Nat} (h : H p = some (.lst xs)) (ha : xs[i]? = some v) : RV (rIxL K) (.ref p) (.int (i : Int)) H v := rv_ixL (sq_of h) (atI_nat ha)
theorem ev_ixT {p : Addr} {xs : List V} {i : Nat} (hp : Ev ta σ H (.ref p)) (hi : Ev tb σ H (.int (i : Int))) (h : H p = some (.tup xs)) (ha : xs[i]? = some v) : Ev (tOp (rIxT K) ta tb) σ H v := ev_op hp hi (rv_ixT' h ha)
theorem ev_ixL {p : Addr} {xs : List V} {i : Nat} (hp : Ev ta σ H (.ref p)) (hi : Ev tb σ H (.int (i : Int))) (h : H p = some (.lst xs)) (ha : xs[i]? = some v) : Ev (tOp (rIxL K) ta tb) σ H v := ev_op hp hi (rv_ixL' h ha)
/-! fields -/
theorem ev_fld {a C dx : Addr} {fs : List (Str × V)} {f : Str} (ha : Ev ta σ H (.ref a)) (ho : H a = some (.ins C dx fs)) (hc : Cls K C) (hn : NoAttr K C f) (hl : fs.lookup f = some v) : Ev (tFld K ta f) σ H v := fun H1 e Q q =>
  ha H1 e _ fun H2 e2 => ⟨a, C, dx, fs, v, rfl, e2 _ _ (e _ _ ho), hc, hn, hl, q H2 e2⟩
/-! ### what is walked -/
structure EvI (wi : TI) (σ : L2.St) (H : Hp) (J : It) : Prop where
  go : ∀ H1, Ex H H1 → ∀ R, (∀ H2, Ex H1 H2 → R J H2) → wi σ H1 R
theorem ei_list {a : Addr} {xs : List V} (h : Ev ta σ H (.ref a)) (hx : H a = some (.lst xs)) : EvI (iList K ta) σ H (Itl K a) := ⟨fun H1 e R q => h H1 e _ fun H2 e2 => ⟨a, rfl, ⟨xs, sq_of (e2 _ _ (e _ _ hx))⟩, q H2 e2⟩⟩
theorem ei_tup {a : Addr} {xs : List V} (h : Ev ta σ H (.ref a)) (hx : H a = some (.tup xs)) : EvI (iTup K ta) σ H (Itt K a) := ⟨fun H1 e R q => h H1 e _ fun H2 e2 => ⟨a, rfl, ⟨xs, st_of (e2 _ _ (e _ _ hx))⟩, q H2 e2⟩⟩
theorem ei_rng1 {n : Int} {ta : TA} (h : EvA ta σ H [.int n]) (h0 : 0 ≤ n) (h1 : n ≤ 100000) : EvI (iRng1 ta) σ H (Itr 0 n.toNat) := ⟨fun H1 e R q => h H1 e _ fun H2 e2 => ⟨n, rfl, by omega, by omega, q H2 e2⟩⟩
theorem ei_rng2 {m n : Int} {ta : TA} (h : EvA ta σ H [.int m, .int n]) (h0 : 0 ≤ m) (h1 : m ≤ 100000) (h2 : 0 ≤ n) (h3 : n ≤ 100000) : EvI (iRng2 ta) σ H (Itr m (n - m).toNat) := ⟨fun H1 e R q => h H1 e _ fun H2 e2 => ⟨m, n, rfl, ⟨by omega, by omega, by omega, by omega⟩, q H2 e2⟩⟩
theorem ei_zipT {a b : Addr} {xs ys : List V} {ta : TA} (h : EvA ta σ H [.ref a, .ref b]) (hx : H a = some (.tup xs)) (hy : H b = some (.tup ys)) : EvI (RZ.iZipA K ta) σ H (RZ.ItzT K a b) :=
  ⟨fun H1 e R q => h H1 e _ fun H2 e2 => ⟨a, b, xs, ys, rfl, Or.inr ⟨st_of (e2 _ _ (e _ _ hx)), st_of (e2 _ _ (e _ _ hy)), q H2 e2⟩⟩⟩
theorem ei_zipL {a b : Addr} {xs ys : List V} {ta : TA} (h : EvA ta σ H [.ref a, .ref b]) (hx : H a = some (.lst xs)) (hy : H b = some (.lst ys)) : EvI (iZip K ta) σ H (Itz K a b) :=
  ⟨fun H1 e R q => h H1 e _ fun H2 e2 => ⟨a, b, xs, ys, rfl, sq_of (e2 _ _ (e _ _ hx)), sq_of (e2 _ _ (e _ _ hy)), q H2 e2⟩⟩
theorem ei_enum {a : Addr} {xs : List V} {ta : TA} (h : EvA ta σ H [.ref a]) (hx : H a = some (.lst xs)) : EvI (iEnum K ta) σ H (Ite K a) :=
  ⟨fun H1 e R q => h H1 e _ fun H2 e2 => ⟨a, xs, rfl, sq_of (e2 _ _ (e _ _ hx)), q H2 e2⟩⟩
theorem walk_zipT {a b : Addr} {xs ys : List V} {n : Nat} (hn : n = min xs.length ys.length) : Walk (RZ.ItzT K a b) n (fun H => SqT K H a xs ∧ SqT K H b ys) (YPair (fun i => xs[i]?) (fun i => ys[i]?)) := by
  subst hn
  refine ⟨fun i _ hi q => ?_, fun _ q => ⟨xs, ys, q.1, q.2, by omega⟩, fun i H v H' _ q y => ?_⟩
  · have h1 : i < xs.length := by omega
    have h2 : i < ys.length := by omega
    exact ⟨xs, ys, xs[i], ys[i], q.1, q.2, by simp [h1], by simp [h2]⟩
  · obtain ⟨T, x, z, h1, h2, h3, h4, h5⟩ := y
    exact ⟨T, x, z, h1, h2, h3, h4 xs q.1, h5 ys q.2⟩
end
/-! ### targets: from the heap Hb, x goes to the slots σ' -/
def Tgt (g : TG) (x : V) (σ : L2.St) (Hb : Hp) (σ' : L2.St) : Prop := ∀ R : L2.St → Hp → Prop, R σ' Hb → g x σ Hb R
theorem tgt_name {i : Nat} {x : V} {σ : L2.St} {Hb : Hp} : Tgt (gName i) x σ Hb (σ.set i (some x)) := fun R q => q
theorem tgt_pair {K : PySem.W.Frag} {i j : Nat} {T : Addr} {x y : V} {σ : L2.St} {Hb : Hp} (h : Hb T = some (.tup [x, y])) : Tgt (gTup K 2 (gCons (gName i) (gCons (gName j) gNil))) (.ref T) σ Hb ((σ.set i (some x)).set j (some y)) := fun R q =>
  ⟨T, [x, y], rfl, .inl (.inl h), rfl, x, [y], rfl, y, [], rfl, rfl, q⟩
/-! ### comprehensions over anything that is walked: n turns -/
/-- the heap without what stands at D -/
def del (D : Addr) (H : Hp) : Hp := fun b => if b = D then none else H b
theorem del_ne {D b : Addr} {H : Hp} (h : b ≠ D) : del D H b = H b := by unfold del; rw [if_neg h]
theorem del_at {D : Addr} {H : Hp} : del D H D = none := by unfold del; rw [if_pos rfl]
theorem del_ex {D : Addr} {H : Hp} : Ex (del D H) H := fun b o e => by
  by_cases h : b = D
  · rw [h, del_at] at e; cases e
  · rw [del_ne h] at e; exact e
theorem del_mono {D : Addr} {H H' : Hp} (e : Ex H H') : Ex (del D H) (del D H') := fun b o q => by
  by_cases h : b = D
  · rw [h, del_at] at q; cases q
  · rw [del_ne h] at q ⊢; exact e _ _ q
theorem del_upd {D : Addr} {H : Hp} {o : HO} : del D (upd H D o) = del D H := by
  funext b
  by_cases h : b = D
  · rw [h, del_at, del_at]
  · rw [del_ne h, del_ne h, upd_ne h]
theorem del_none {D : Addr} {H H' : Hp} (h : H D = none) (e : Ex H H') : Ex H (del D H') := fun b o q => by
  have hb : b ≠ D := fun z => by rw [z, h] at q; cases q
  rw [del_ne hb]; exact e _ _ q
/-- evaluation to something of which P holds, by the heap before and behind -/
def EvF (te : TE) (σ : L2.St) (H : Hp) (P : V → Hp → Hp → Prop) : Prop := ∀ H1, Ex H H1 → ∀ Q : VK, (∀ v H2, Ex H1 H2 → P v H1 H2 → Q v H2) → te σ H1 Q
def NewL (xs : List V) : V → Hp → Hp → Prop := fun v H1 H2 => ∃ p, v = .ref p ∧ H1 p = none ∧ H2 p = some (.lst xs)
theorem EvF.mono {te : TE} {σ : L2.St} {H H' : Hp} {P : V → Hp → Hp → Prop} (e : Ex H H') (h : EvF te σ H P) : EvF te σ H' P := fun H1 a Q q => h H1 (e.trans a) Q q
theorem ef_P {te : TE} {σ : L2.St} {H : Hp} {P : V → Hp → Prop} (h : EvP te σ H P) : EvF te σ H (fun v _ H2 => P v H2) := h
theorem ef_L {te : TE} {σ : L2.St} {H : Hp} {xs : List V} (h : EvL te σ H xs) : EvF te σ H (NewL xs) := fun H1 e Q q => h H1 e Q fun p H2 hp e2 h2 => q _ H2 e2 ⟨p, rfl, hp, h2⟩
section
variable {K : PySem.W.Frag} {σ : L2.St} {H : Hp} {te : TE} {wi : TI} {J : It} {n : Nat} {G : Hp → Prop} {Y : Nat → Hp → V → Hp → Prop} {g : TG} {vs : List Nat}
theorem el_lcF (PF : Nat → V → Hp → Hp → Prop) (P : Nat → V → Hp → Prop) (sta : ∀ i, Sta (P i)) (hd : ∀ i v D xs Hs He, i < n → Hs D = some (.lst xs) → Ex Hs He → PF i v Hs He → P i v (del D He))
    (hn : n ≤ 100000) (hw : EvI wi σ H J) (w : Walk J n G Y) (hG : ∀ H1, Ex H H1 → G H1)
    (ht : ∀ i x Ha Hb, i < n → Ex H Ha → Y i Ha x Hb → Ex Ha Hb ∧ ∃ σ', Tgt g x (wipe σ vs) Hb σ' ∧ wipe σ' vs = wipe σ vs ∧ EvF te σ' Hb (PF i)) :
    EvF (tLc wi g tYes te vs) σ H (fun v H1 H2 => ∃ p out, v = .ref p ∧ H1 p = none ∧ out.length = n ∧ H2 p = some (.lst out) ∧ ∀ j v, out[j]? = some v → P j v H2) := fun H0 e Q q =>
  hw.go H0 e _ fun H1 e1 D hD => by
    refine lc_it (G := G) w (fun i H' => Ex H1 H' ∧ ∃ out : List V, out.length = i ∧ i ≤ n ∧ H' D = some (.lst out) ∧ ∀ j v, out[j]? = some v → P j v (del D H')) ?_ ?_ ?_ ?_
    · exact ⟨Ex.new hD, [], rfl, Nat.zero_le _, upd_same, fun j v hj => by simp at hj⟩
    · rintro i H' hi ⟨e2, _⟩
      exact hG H' ((e.trans e1).trans e2)
    · rintro i x Ha Hb hi ⟨e2, out, hl, _, hL, hI⟩ y
      obtain ⟨e3, σ', tg, hwp, hev⟩ := ht i x Ha Hb hi ((e.trans e1).trans e2) y
      refine tg _ ⟨hwp, ?_⟩
      show te σ' Hb _
      refine hev Hb (Ex.refl _) _ fun v H4 e4 hp => ?_
      refine ⟨out, e4 _ _ (e3 _ _ hL), sz_lt (by omega), Ex.mut ((e2.trans e3).trans e4) hD, out ++ [v], by simp [hl], hi, upd_same, fun j v' hj => ?_⟩
      rw [del_upd]
      by_cases hj2 : j < out.length
      · rw [List.getElem?_append_left hj2] at hj
        exact sta j _ _ _ (del_mono (e3.trans e4)) (hI j v' hj)
      · rw [List.getElem?_append_right (by omega)] at hj
        have hj3 : j - out.length = 0 := by
          have := (List.getElem?_eq_some_iff.mp hj).1
          simpa using this
        rw [hj3] at hj
        have ev : v = v' := by simpa using hj
        have ej : j = i := by omega
        subst ev ej
        exact hd j v D out Hb H4 hi (e3 _ _ hL) e4 hp
    · rintro H' ⟨e2, out, hl, _, hL, hI⟩
      exact q _ H' (e1.trans e2) ⟨D, out, rfl, fresh_back e1 hD, hl, hL, fun j v hj => sta j _ _ _ del_ex (hI j v hj)⟩
/-- the items known -/
theorem el_lcV (out : List V) (ho : out.length = n) (hn : n ≤ 100000) (hw : EvI wi σ H J) (w : Walk J n G Y) (hG : ∀ H1, Ex H H1 → G H1)
    (ht : ∀ i x y Ha Hb, out[i]? = some y → Ex H Ha → Y i Ha x Hb → Ex Ha Hb ∧ ∃ σ', Tgt g x (wipe σ vs) Hb σ' ∧ wipe σ' vs = wipe σ vs ∧ Ev te σ' Hb y) : EvL (tLc wi g tYes te vs) σ H out := fun H0 e Q q =>
  el_lcF (PF := fun i v _ _ => out[i]? = some v) (P := fun i v _ => out[i]? = some v) (fun _ _ _ _ _ h => h) (fun _ _ _ _ _ _ _ _ _ h => h) hn hw w hG (fun i x Ha Hb hi ea y => by
    obtain ⟨e1, σ', t1, t2, t3⟩ := ht i x _ Ha Hb (List.getElem?_eq_getElem (by omega)) ea y
    exact ⟨e1, σ', t1, t2, fun H1 eh Q q => t3 H1 eh Q fun H2 e2 => q _ H2 e2 (List.getElem?_eq_getElem (by omega))⟩) H0 e Q fun v H2 e2 ⟨p, out', hv, hp, hl, hL, hI⟩ => by
      have ee : out' = out := List.ext_getElem? fun j => by
        cases hj : out'[j]? with
        | none =>
          have := List.getElem?_eq_none_iff.mp hj
          rw [List.getElem?_eq_none (by omega)]
        | some v => exact (hI j v hj).symm
      subst hv ee
      exact q p H2 hp e2 hL
theorem el_range1 {j : Nat} {k : Int} {ta : TA} (out : List V) (h : EvA ta σ H [.int k]) (ho : (out.length : Int) = k) (hn : k ≤ 100000) (hw : ∀ x, wipe ((wipe σ vs).set j (some x)) vs = wipe σ vs)
    (ht : ∀ (i : Nat) y, out[i]? = some y → Ev te ((wipe σ vs).set j (some (.int (i : Int)))) H y) : EvL (tLc (iRng1 ta) (gName j) tYes te vs) σ H out :=
  el_lcV out (by omega) (by omega) (ei_rng1 h (by omega) hn) walk_range (fun _ _ => trivial) fun i x y Ha Hb hy e h2 => by
    obtain ⟨h3, h4⟩ := h2
    subst h3
    have h5 : x = V.int (i : Int) := by rw [h4]; simp
    subst h5
    exact ⟨Ex.refl _, _, tgt_name, hw _, (ht i y hy).mono e⟩
theorem el_range2 {j : Nat} {m k : Int} {ta : TA} (out : List V) (h : EvA ta σ H [.int m, .int k]) (h0 : 0 ≤ m) (ho : out.length = (k - m).toNat) (hm : m ≤ 100000) (hk0 : 0 ≤ k) (hn : k ≤ 100000) (hw : ∀ x, wipe ((wipe σ vs).set j (some x)) vs = wipe σ vs)
    (ht : ∀ (i : Nat) y, out[i]? = some y → Ev te ((wipe σ vs).set j (some (.int (m + (i : Int))))) H y) : EvL (tLc (iRng2 ta) (gName j) tYes te vs) σ H out :=
  el_lcV out ho (by omega) (ei_rng2 h h0 hm hk0 hn) walk_range (fun _ _ => trivial) fun i x y Ha Hb hy e h2 => by
    obtain ⟨h3, h4⟩ := h2
    subst h3
    subst h4
    exact ⟨Ex.refl _, _, tgt_name, hw _, (ht i y hy).mono e⟩
theorem el_list {a : Addr} {xs : List V} {tl : TE} {j : Nat} (out : List V) (h : Ev tl σ H (.ref a)) (hx : H a = some (.lst xs)) (ho : out.length = xs.length) (hn : xs.length ≤ 100000) (hw : ∀ x, wipe ((wipe σ vs).set j (some x)) vs = wipe σ vs)
    (ht : ∀ (i : Nat) x y, xs[i]? = some x → out[i]? = some y → Ev te ((wipe σ vs).set j (some x)) H y) : EvL (tLc (iList K tl) (gName j) tYes te vs) σ H out :=
  el_lcV out ho hn (ei_list h hx) walk_list (fun H1 e => sq_of (e _ _ hx)) fun i x y Ha Hb hy e ⟨h2, h3⟩ => by
    subst h2
    exact ⟨Ex.refl _, _, tgt_name, hw _, (ht i x y h3 hy).mono e⟩
theorem el_tup {a : Addr} {xs : List V} {tl : TE} {j : Nat} (out : List V) (h : Ev tl σ H (.ref a)) (hx : H a = some (.tup xs)) (ho : out.length = xs.length) (hn : xs.length ≤ 100000) (hw : ∀ x, wipe ((wipe σ vs).set j (some x)) vs = wipe σ vs)
    (ht : ∀ (i : Nat) x y, xs[i]? = some x → out[i]? = some y → Ev te ((wipe σ vs).set j (some x)) H y) : EvL (tLc (iTup K tl) (gName j) tYes te vs) σ H out :=
  el_lcV out ho hn (ei_tup h hx) walk_tup (fun H1 e => st_of (e _ _ hx)) fun i x y Ha Hb hy e ⟨h2, h3⟩ => by
    subst h2
    exact ⟨Ex.refl _, _, tgt_name, hw _, (ht i x y h3 hy).mono e⟩
/-- over a new list -/
theorem el_newL {xs : List V} {tl : TE} {j : Nat} (out : List V) (h : EvP tl σ H (IsL xs)) (ho : out.length = xs.length) (hn : xs.length ≤ 100000) (hw : ∀ x, wipe ((wipe σ vs).set j (some x)) vs = wipe σ vs)
    (ht : ∀ (i : Nat) x y, xs[i]? = some x → out[i]? = some y → Ev te ((wipe σ vs).set j (some x)) H y) : EvL (tLc (iList K tl) (gName j) tYes te vs) σ H out := fun H0 e Q q =>
  h H0 e _ fun v H1 e1 ⟨p, hv, hp⟩ => by
    subst hv
    refine ⟨p, rfl, ⟨xs, sq_of hp⟩, ?_⟩
    have hE : EvL (tLc (iList K (tC (.ref p))) (gName j) tYes te vs) σ H1 out := el_list out ev_c hp ho hn hw fun i x y hx hy => (ht i x y hx hy).mono (e.trans e1)
    obtain ⟨a', ea, _, r⟩ := hE H1 (Ex.refl _) Q fun p2 H2 hp2 e2 h2 => q p2 H2 (fresh_back e1 hp2) (e1.trans e2) h2
    cases ea
    exact r
theorem el_zipT {a b : Addr} {xs ys : List V} {ta : TA} {j k : Nat} (out : List V) (h : EvA ta σ H [.ref a, .ref b]) (hx : H a = some (.tup xs)) (hy : H b = some (.tup ys)) (ho : out.length = min xs.length ys.length) (hn : out.length ≤ 100000)
    (hw : ∀ x y, wipe (((wipe σ vs).set j (some x)).set k (some y)) vs = wipe σ vs)
    (ht : ∀ (i : Nat) x y z, xs[i]? = some x → ys[i]? = some y → out[i]? = some z → Ev te (((wipe σ vs).set j (some x)).set k (some y)) H z) : EvL (tLc (RZ.iZipA K ta) (gTup K 2 (gCons (gName j) (gCons (gName k) gNil))) tYes te vs) σ H out :=
  el_lcV out rfl hn (ei_zipT h hx hy) (walk_zipT ho) (fun H1 e => ⟨st_of (e _ _ hx), st_of (e _ _ hy)⟩) fun i v z Ha Hb hz e ⟨T, x, y, h1, h2, h3, h4, h5⟩ => by
    subst h1 h3
    exact ⟨Ex.new h2, _, tgt_pair upd_same, hw x y, (ht i x y z h4 h5 hz).mono (e.trans (Ex.new h2))⟩
theorem el_zipL {a b : Addr} {xs ys : List V} {ta : TA} {j k : Nat} (out : List V) (h : EvA ta σ H [.ref a, .ref b]) (hx : H a = some (.lst xs)) (hy : H b = some (.lst ys)) (ho : out.length = min xs.length ys.length) (hn : out.length ≤ 100000)
    (hw : ∀ x y, wipe (((wipe σ vs).set j (some x)).set k (some y)) vs = wipe σ vs)
    (ht : ∀ (i : Nat) x y z, xs[i]? = some x → ys[i]? = some y → out[i]? = some z → Ev te (((wipe σ vs).set j (some x)).set k (some y)) H z) : EvL (tLc (iZip K ta) (gTup K 2 (gCons (gName j) (gCons (gName k) gNil))) tYes te vs) σ H out :=
  el_lcV out rfl hn (ei_zipL h hx hy) (walk_zip ho) (fun H1 e => ⟨sq_of (e _ _ hx), sq_of (e _ _ hy)⟩) fun i v z Ha Hb hz e ⟨T, x, y, h1, h2, h3, h4, h5⟩ => by
    subst h1 h3
    exact ⟨Ex.new h2, _, tgt_pair upd_same, hw x y, (ht i x y z h4 h5 hz).mono (e.trans (Ex.new h2))⟩
end
end K88

set_option maxHeartbeats 4000000
namespace K88
open PySem L2 Evl
/-! ### isinstance over data -/
def tyD : Da → String
  | .i _ => "int"
  | .s _ => "str"
  | .t _ => "tuple"
def isI : Da → Bool
  | .i _ => true
  | _ => false
def isS : Da → Bool
  | .s _ => true
  | _ => false
def isT : Da → Bool
  | .t _ => true
  | _ => false
section
variable {K : PySem.W.Frag} {H H' : Hp} {σ : L2.St} {ta : TE} {v : V} {d : Da}
theorem rep_ty (h : Rep K H v d) : TyX K H v (.type (tyD d)) := by
  cases d with
  | i n => unfold Rep at h; rw [h]; exact .base (.int n)
  | s x => unfold Rep at h; rw [h]; exact .base (.str x)
  | t l =>
    unfold Rep at h
    obtain ⟨a, vs, rfl, h1, _⟩ := h
    exact .base (.tup h1)
theorem ev_isi {T : String} {b : Bool} (ha : Ev ta σ H v) (h : Rep K H v d) (hb : kitB (tyD d) T = some b) : Ev (tCB (rIsi K) (tCons ta (tCons (tC (.ty T)) tNil))) σ H (.bl b) := fun H1 e Q q =>
  ha H1 e _ fun H2 e2 => ⟨v, .ty T, .type (tyD d), .type T, b, rfl, .ty T, rep_ty (h.ex (e.trans e2)), kit_ty hb, q H2 e2⟩
theorem kt_ii : kitB "int" "int" = some true := by decide +kernel
theorem kt_si : kitB "str" "int" = some false := by decide +kernel
theorem kt_ti : kitB "tuple" "int" = some false := by decide +kernel
theorem kt_ib : kitB "int" "bool" = some false := by decide +kernel
theorem kt_sb : kitB "str" "bool" = some false := by decide +kernel
theorem kt_tb : kitB "tuple" "bool" = some false := by decide +kernel
theorem kt_it : kitB "int" "tuple" = some false := by decide +kernel
theorem kt_st : kitB "str" "tuple" = some false := by decide +kernel
theorem kt_tt : kitB "tuple" "tuple" = some true := by decide +kernel
theorem kt_is : kitB "int" "str" = some false := by decide +kernel
theorem kt_ss : kitB "str" "str" = some true := by decide +kernel
theorem kt_ts : kitB "tuple" "str" = some false := by decide +kernel
theorem ev_isInt (ha : Ev ta σ H v) (h : Rep K H v d) : Ev (tCB (rIsi K) (tCons ta (tCons (tC (.ty "int")) tNil))) σ H (.bl (isI d)) := ev_isi ha h (by cases d <;> first | exact kt_ii | exact kt_si | exact kt_ti)
theorem ev_isBool (ha : Ev ta σ H v) (h : Rep K H v d) : Ev (tCB (rIsi K) (tCons ta (tCons (tC (.ty "bool")) tNil))) σ H (.bl false) := ev_isi ha h (by cases d <;> first | exact kt_ib | exact kt_sb | exact kt_tb)
theorem ev_isTup (ha : Ev ta σ H v) (h : Rep K H v d) : Ev (tCB (rIsi K) (tCons ta (tCons (tC (.ty "tuple")) tNil))) σ H (.bl (isT d)) := ev_isi ha h (by cases d <;> first | exact kt_it | exact kt_st | exact kt_tt)
theorem ev_isStr (ha : Ev ta σ H v) (h : Rep K H v d) : Ev (tCB (rIsi K) (tCons ta (tCons (tC (.ty "str")) tNil))) σ H (.bl (isS d)) := ev_isi ha h (by cases d <;> first | exact kt_is | exact kt_ss | exact kt_ts)
end
/-! ### is_integer, is_count, is_tuple -/
def spIsI (K : PySem.W.Frag) : Sp := fun vs H Q _ => ∃ v d, vs = [v] ∧ Rep K H v d ∧ RetV (.bl (isI d)) H Q
def Bd (b : Nat) (xs : List Int) : Prop := ∀ x, x ∈ xs → x.natAbs < 2 ^ b
theorem Bd.at {b : Nat} {xs : List Int} (h : Bd b xs) {i : Nat} {x : Int} (e : xs[i]? = some x) : x.natAbs < 2 ^ b := h x (List.mem_of_getElem? e)
theorem getD_of {xs : List Int} {i : Nat} {x : Int} (h : xs[i]? = some x) : xs.getD i 0 = x := by
  rw [List.getD_eq_getElem?_getD, h]; rfl
theorem get_of {xs : List Int} {i : Nat} (h : i < xs.length) : xs[i]? = some (xs.getD i 0) := by
  rw [List.getD_eq_getElem?_getD, List.getElem?_eq_getElem h]; rfl
theorem vget {xs : List Int} {i : Nat} (h : i < xs.length) : (xs.map V.int)[i]? = some (.int (xs.getD i 0)) := by
  rw [List.getElem?_map, get_of h]; rfl
theorem vget_inv {xs : List Int} {i : Nat} {v : V} (h : (xs.map V.int)[i]? = some v) : ∃ x, xs[i]? = some x ∧ v = .int x := by
  rw [List.getElem?_map, Option.map_eq_some_iff] at h
  obtain ⟨x, h1, h2⟩ := h
  exact ⟨x, h1, h2.symm⟩
theorem Bd.getD {b : Nat} {xs : List Int} (h : Bd b xs) (i : Nat) : (xs.getD i 0).natAbs < 2 ^ b := by
  rw [List.getD_eq_getElem?_getD]
  cases e : xs[i]? with
  | none => exact Nat.two_pow_pos b
  | some x => exact h.at e
end K88

set_option maxHeartbeats 4000000
namespace K88
open PySem L2 Evl
/-! ### data of bounded size -/
def isC : Da → Bool
  | .i n => decide (0 ≤ n)
  | _ => false
def isTn (n : Int) : Da → Bool
  | .t l => decide ((l.length : Int) = n)
  | _ => false
def Fit : Nat → Da → Prop
  | _, .i n => n.natAbs < 2 ^ 1000
  | _, .s x => x.length ≤ 1000 ∧ PyData.strOk x = true
  | 0, .t _ => False
  | k + 1, .t l => l.length ≤ 1000 ∧ ∀ d, d ∈ l → Fit k d
def Da.n : Da → Int
  | .i n => n
  | _ => 0
def Da.l : Da → List Da
  | .t l => l
  | _ => []
def Da.ns (d : Da) : List Int := d.l.map Da.n
def areC (n : Int) (d : Da) : Bool := isTn n d && d.l.all isC
def areI (n : Int) (d : Da) : Bool := isTn n d && d.l.all isI
theorem isI_eq {d : Da} (h : isI d = true) : d = .i d.n := by cases d <;> first | rfl | cases h
theorem isC_I {d : Da} (h : isC d = true) : isI d = true := by cases d <;> first | rfl | cases h
theorem all_I : ∀ {l : List Da}, l.all isI = true → l = (l.map Da.n).map Da.i
  | [], _ => rfl
  | d :: l, h => by
    rw [List.all_cons, Bool.and_eq_true] at h
    show d :: l = Da.i d.n :: (l.map Da.n).map Da.i
    rw [← all_I h.2, ← isI_eq h.1]
theorem all_CI {l : List Da} (h : l.all isC = true) : l.all isI = true := by
  rw [List.all_eq_true] at h ⊢
  exact fun x hx => isC_I (h x hx)
theorem areI_eq {n : Int} {d : Da} (h : areI n d = true) : d = di d.ns ∧ (d.ns.length : Int) = n := by
  unfold areI at h
  rw [Bool.and_eq_true] at h
  cases d with
  | t l => exact ⟨congrArg Da.t (all_I h.2), by have := of_decide_eq_true h.1; simpa [Da.ns, Da.l] using this⟩
  | i n => cases h.1
  | s x => cases h.1
theorem areC_I {n : Int} {d : Da} (h : areC n d = true) : areI n d = true := by
  unfold areC at h; unfold areI
  rw [Bool.and_eq_true] at h ⊢
  exact ⟨h.1, all_CI h.2⟩
theorem fit_mem {k : Nat} {l : List Da} (h : Fit k (.t l)) : ∀ d, d ∈ l → Fit k d := by
  cases k with
  | zero => exact h.elim
  | succ k =>
    intro d hd
    have h2 := h.2 d hd
    clear h hd
    revert h2
    revert d
    induction k with
    | zero => intro d h; cases d <;> first | exact h | exact h.elim
    | succ k ih =>
      intro d h
      cases d with
      | i n => exact h
      | s x => exact h
      | t l => exact ⟨h.1, fun d hd => ih d (h.2 d hd)⟩
theorem fit_len {k : Nat} {l : List Da} (h : Fit k (.t l)) : l.length ≤ 1000 := by
  cases k with
  | zero => exact h.elim
  | succ k => exact h.1
theorem fit_n {k : Nat} {d : Da} (h : Fit k d) : d.n.natAbs < 2 ^ 1000 := by
  cases d with
  | i n => cases k <;> exact h
  | s x => exact Nat.two_pow_pos 1000
  | t l => exact Nat.two_pow_pos 1000
theorem fit_ns {k : Nat} {d : Da} (h : Fit k d) : Bd 1000 d.ns := by
  intro x hx
  unfold Da.ns at hx
  obtain ⟨e, he, rfl⟩ := List.mem_map.mp hx
  cases d with
  | t l => exact fit_n (fit_mem h e he)
  | i n => cases he
  | s x => cases he
/-! ### a datum beside a text -/
def isStr (x : Str) : Da → Bool
  | .s y => decide (y = x)
  | _ => false
section
variable {K : PySem.W.Frag} {H : Hp}
theorem dp_of : ∀ (k : Nat) (v : V) (d : Da), Rep K H v d → Fit k d → ∃ p : PyData, Dp K H v p ∧ p.canLay0 = true ∧ p.depth ≤ k ∧ ∀ x : Str, PyData.eqv p (.str x) = isStr x d
  | k, v, .i n, h, _ => by unfold Rep at h; subst h; exact ⟨.int n, .int n, rfl, by show 0 ≤ k; omega, fun x => rfl⟩
  | k, v, .s y, h, hf => by
    unfold Rep at h
    subst h
    refine ⟨.str y, .str y, by cases k <;> exact hf.2, by show 0 ≤ k; omega, fun x => ?_⟩
    show (y == x) = decide (y = x)
    by_cases e : y = x
    · subst e; simp
    · rw [decide_eq_false e]; exact beq_eq_false_iff_ne.mpr e
  | 0, v, .t l, _, hf => hf.elim
  | k + 1, v, .t l, h, hf => by
    unfold Rep at h
    obtain ⟨a, vs, rfl, h1, h2⟩ := h
    obtain ⟨ds, h3, h4, h5⟩ : ∃ ds : List PyData, DpAll K H vs ds ∧ PyData.canLayAll0 ds = true ∧ PyData.depthAll ds ≤ k := by
      have hf2 := hf.2
      clear h1 hf
      induction l generalizing vs with
      | nil => unfold Reps at h2; subst h2; exact ⟨[], .nil, rfl, Nat.zero_le _⟩
      | cons d l ih =>
        unfold Reps at h2
        obtain ⟨v, r, rfl, e2, e3⟩ := h2
        obtain ⟨p, q1, q2, q3, _⟩ := dp_of k v d e2 (hf2 d List.mem_cons_self)
        obtain ⟨ds, r1, r2, r3⟩ := ih r e3 fun d hd => hf2 d (List.mem_cons_of_mem _ hd)
        exact ⟨p :: ds, .cons q1 r1, by simp [PyData.canLayAll0, q2, r2], by simp only [PyData.depthAll]; omega⟩
    exact ⟨.tuple ds, .tup (.inl (.inl h1)) h3, by simp [PyData.canLay0, h4], by simp only [PyData.depth]; omega, fun x => rfl⟩
theorem rv_neS {v : V} {d : Da} {k : Nat} {x : Str} (h : Rep K H v d) (hf : Fit k d) (hk : k ≤ 60) (hx : PyData.strOk x = true) : RV (rNeD K) v (.str x) H (.bl (!isStr x d)) := fun H1 e Q q => by
  obtain ⟨p, q1, q2, q3, q4⟩ := dp_of k v d (h.ex e) hf
  refine ⟨p, .str x, q1, .str x, ?_, ?_, ?_⟩
  · unfold SeqAt.shaped
    rw [Bool.and_eq_true]
    exact ⟨q2, decide_eq_true (by omega)⟩
  · unfold SeqAt.shaped
    rw [Bool.and_eq_true]
    exact ⟨hx, rfl⟩
  · rw [q4]
    exact q H1 (Ex.refl _)
end
/-! ### are_counts, are_integers -/
end K88

set_option maxHeartbeats 4000000
namespace K88
open PySem PySem.Spec PyProof.Rows L2 Evl
section
variable {X : Cx}
/-- // by any divisor but 0 below 2 ^ 9000 in size -/
def CDivNW (_ j : Int) : Prop := j ≠ 0 ∧ j.natAbs.log2 < 9000
theorem op_fdivNW : OpR X (binaryOp .FloorDiv) (rI CDivNW fun i j => .int (i.fdiv j)) := opI fun _ _ _ _ _ _ _ hc q => floordiv_int hc.1 q (.inl (PyProof.noPylong_of_log2 hc.2))
/-- x *= y of great ints -/
def ipMW : TIp := fun x y H Q => ∃ i j, x = .int i ∧ y = .int j ∧ CMulW i j ∧ Q (.int (i * j)) H
theorem ip_mulW : PIp X .Mult ipMW := by
  intro pins s σ H x y v u Q I r1 r2 h
  obtain ⟨i, j, e1, e2, hc, q⟩ := h
  subst e1 e2
  obtain ⟨t, rfl⟩ := r1
  obtain ⟨t', rfl⟩ := r2
  exact imul_int (show EP X pins σ Q _ _ from ⟨.int _, H, I.tok _, ⟨_, rfl⟩, q⟩) hc.ok
/-- xs[j], read for xs[j] op= e -/
def rGetL : V → V → Hp → VK → Prop := fun o i H Q => ∃ (p : Addr) (xs : List V) (j : Nat) (v : V), o = .ref p ∧ i = .int (j : Int) ∧ H p = some (.lst xs) ∧ xs[j]? = some v ∧ Q v H
theorem get_list : PGet X rGetL := by
  intro pins s σ H o i ov iv Q I ro ri h
  obtain ⟨p, xs, j, v, rfl, rfl, hp, hv, q⟩ := h
  cases ro
  obtain ⟨t, rfl⟩ := ri
  obtain ⟨its, r, pl, hz⟩ := I.list (.inl (.inl hp))
  obtain ⟨u, hu, ru⟩ := r.get hv
  have hj : j < xs.length := (List.getElem?_eq_some_iff.mp hv).1
  have hl := line63
  exact wpAny_getItem_list pl.isList (Int.natCast_nonneg j) (by omega) (by simpa using hu) ⟨v, H, I, ru, q⟩
/-- any of a tuple of ints -/
def rAnyI (K : PySem.W.Frag) : List V → Hp → VK → Prop := fun vs H Q => ∃ (a : Addr) (ns : List Int), vs = [V.ref a] ∧ SqT K H a (ns.map V.int) ∧ Q (.bl (ns.any fun n => n != 0)) H
theorem any_of_range : ∀ ns : List Int, (List.range ns.length).any (fun i => ns.getD i 0 != 0) = ns.any fun n => n != 0
  | [] => rfl
  | n :: ns => by
    rw [List.length_cons, List.range_succ_eq_map, List.any_cons, List.any_map, List.any_cons, ← any_of_range ns]
    rfl
theorem cr_anyI (hc : X.calm = true) : CallR X (.builtin "any") (rAnyI X.K) := by
  intro pins s σ H vs us Q I r h
  obtain ⟨a, ns, rfl, hs, q⟩ := h
  obtain ⟨its, rv, ht, hz⟩ := I.tuple hs
  have hT : s.heap.IsTuple a its.toArray := ht
  have ha : a < s.heap.objs.size := ht.lt
  rw [Vals.ref1 r]
  have hb := rv.length
  refine call_any_walk (wpAny_pyIter_tuple hT ?_)
  have hne : a ≠ s.heap.objs.size := Nat.ne_of_lt ha
  refine ⟨_, _, _, _, _, _, fun i => ns.getD i 0 != 0, rfl, Walks.tuple (A := X.A.in1) (I.ok.hd hc) _ a hne its.toArray, ⟨⟨_, Heap.get?_push_size _ rfl, rfl, rfl⟩, hT.push _⟩, fun i v s2 Q2 E2 hv hq => ?_, fun h' tk hk => ?_⟩
  · have hv2 : its[i]? = some v := by simpa using hv
    have hi : i < ns.length := by
      have q1 := (List.getElem?_eq_some_iff.mp hv2).1
      rw [List.length_map] at hb
      omega
    obtain ⟨u, hu, ru⟩ := rv.get (i := i) (x := .int (ns.getD i 0)) (by rw [List.getElem?_map, List.getD_eq_getElem?_getD, List.getElem?_eq_getElem hi]; rfl)
    rw [hv2] at hu
    cases hu
    obtain ⟨t, rfl⟩ := ru
    exact PySem.P.truthy_int hq
  · refine ⟨.bl _, H, I.kept fun b o eo => hk b o (fun hmem => ?_) (Heap.get?_push_of_some _ eo), ?_, q⟩
    · rcases List.mem_cons.mp hmem with e1 | hmem
      · exact absurd (e1 ▸ Heap.lt_size eo) (Nat.lt_irrefl _)
      · cases hmem
    · show Value.bool _ = Value.bool _
      rw [← any_of_range, List.size_toArray, ← hb, List.length_map]
/-! ### t[::-1] -/
theorem rev_pick (xs : List Value) : ∀ n, n ≤ xs.length → (List.range n).filterMap (fun k : Nat => xs[(((n : Int) - 1) + (k : Int) * -1).toNat]?) = (xs.take n).reverse
  | 0, _ => by simp
  | n + 1, h => by
    rw [List.range_succ_eq_map, List.filterMap_cons, List.filterMap_map]
    have e0 : ((((n + 1 : Nat) : Int) - 1) + ((0 : Nat) : Int) * -1).toNat = n := by omega
    rw [e0, List.getElem?_eq_getElem (by omega), List.take_succ_eq_append_getElem (by omega), List.reverse_append]
    show xs[n] :: List.filterMap _ (List.range n) = xs[n] :: (xs.take n).reverse
    congr 1
    rw [← rev_pick xs n (by omega)]
    congr 1
    funext k
    show xs[((((n + 1 : Nat) : Int) - 1) + ((Nat.succ k : Nat) : Int) * -1).toNat]? = _
    congr 1
    omega
theorem adjust_rev (n : Nat) : Builtin.Slice.sliceAdjust none none (-1) (n : Int) = ((n : Int) - 1, -1) := rfl
theorem places_rev (n : Nat) : Builtin.Slice.slicePlaces ((n : Int) - 1) (-1) (-1) = n := by
  unfold Builtin.Slice.slicePlaces
  rw [if_neg (by decide)]
  by_cases h : (n : Int) - 1 > -1
  · rw [if_pos h]; simp
  · rw [if_neg h]; omega
section
variable {prog : Program} {w : World} {A : Around} {E : Value → Shared → Prop} {s : Shared}
theorem applied_rev {sl : Addr} {t : Tok} {n : Nat} {Q : Int × Int × Nat → Shared → Prop} (hs : s.heap.IsSliceOf sl .none .none (.int (-1) t)) (h : Q ((n : Int) - 1, -1, n) s) :
    wpAny (model prog w) A (Builtin.Slice.sliceApplied (.ref sl) (pure (n : Int))) Q E s := by
  obtain ⟨os, hos, hcs, hds⟩ := id hs
  unfold Builtin.Slice.sliceApplied Builtin.Slice.sliceFields; refine wpAny_bind (wpAny_bind (wpAny_field hos hds (x := .none) rfl (wpAny_bind (wpAny_field hos hds (x := .none) rfl (wpAny_bind (wpAny_field hos hds (x := .int (-1) t) rfl (wpAny_pure ?_)))))))
  refine wpAny_bind (slicePart_int ?_); show wpAny _ _ (if ((-1 : Int) == 0) = true then _ else _) _ _ s; rw [if_neg (by decide)]
  refine wpAny_bind (slicePart_none (wpAny_bind (slicePart_none (wpAny_bind (wpAny_pure ?_)))))
  show wpAny _ _ (match Builtin.Slice.sliceAdjust none none (-1) (n : Int) with | (lo, hi) => pure (lo, (-1 : Int), Builtin.Slice.slicePlaces lo hi (-1))) _ _ s
  rw [adjust_rev]; show wpAny _ _ (pure ((n : Int) - 1, (-1 : Int), Builtin.Slice.slicePlaces ((n : Int) - 1) (-1) (-1))) _ _ s
  rw [places_rev]; exact wpAny_pure h
theorem getItem_rev {t sl : Addr} {items : Array Value} {tk : Tok} {Q : Value → Shared → Prop} (ht : IsTup s.heap t items) (hs : s.heap.IsSliceOf sl .none .none (.int (-1) tk))
    (h : Q (.ref s.heap.objs.size) { s with heap := s.heap.push { cls := .type "tuple", data := .seq items.toList.reverse.toArray } }) (hsz : items.size ≤ sizeLine) : wpAny (model prog w) A (getItem (.ref t) (.ref sl)) Q E s := by
  obtain ⟨os, hos, hcs, hds⟩ := id hs
  have hTs : s.TypeIs (.ref sl) "slice" := ⟨os, hos, hcs⟩
  have hsize : sizeOk (.seq items.toList.reverse.toArray) := by show items.toList.reverse.toArray.size ≤ sizeLine; simpa using hsz
  unfold getItem; try with_reducible refine wpAny_holding ?_
  first | refine wpAny_bind (wpAny_pure ?_) | skip
  refine wpAny_bind (wpAny_sequenceKey ht.typeIs (by decide) (wpAny_bind (wpAny_callSpecial?_slot (name := Str.ofString "__getitem__") ht.typeIs PyProof.Rows.slot_tuple_getitem (wpAny_call_entry PyProof.Rows.slot_tuple_getitem ht.typeIs entry_tuple_getitem ?_ (args_tuple_getitem _ _)))))
  show wpAny _ _ (Builtin.Tuple.tupleItemsOf (.ref t) >>= _) _ _ s; refine wpAny_bind (tupleItemsOf_ ht (wpAny_bind (wpAny_typeOf hTs ?_)))
  rw [if_pos (by decide)]; refine wpAny_bind (applied_rev hs ?_)
  have hno : ¬ ((((items.size : Int) - 1) == 0 && (-1 : Int) == 1 && items.size == items.size) = true) := by simp
  show wpAny _ _ (if (((items.size : Int) - 1) == 0 && (-1 : Int) == 1 && items.size == items.size) = true then _ else _) _ _ s
  have e1 : ((List.range items.size).filterMap fun (k : Nat) => items[(((items.size : Int) - 1) + (k : Int) * -1).toNat]?).toArray = items.toList.reverse.toArray := by
    have := rev_pick items.toList items.size (by simp)
    simp only [Array.getElem?_toList] at this
    rw [this, List.take_of_length_le (by simp)]
  rw [if_neg hno, e1]
  first
    | exact wpAny_bind (m := Builtin.Tuple.tupleExact _) (wpAny_newObj_type (wpAny_pure ⟨_, rfl, wpAny_pure h⟩) hsize)
    | exact wpAny_bind (m := Builtin.Tuple.tupleExact _) (wpAny_newObj_type (wpAny_bind (wpAny_pure (wpAny_pure ⟨_, rfl, wpAny_pure h⟩))) hsize)
    | exact wpAny_bind (wpAny_bind (m := Builtin.Tuple.tupleExact _) (wpAny_newObj_type (wpAny_pure (wpAny_pure ⟨_, rfl, wpAny_pure h⟩)) hsize))
    | exact wpAny_bind (wpAny_bind (m := Builtin.Tuple.tupleExact _) (wpAny_newObj_type (wpAny_pure ⟨_, rfl, wpAny_pure h⟩) hsize))
end
def tRevT (K : PySem.W.Frag) (te : TE) : TE := fun σ H Q => te σ H fun x H1 => ∃ a xs, x = .ref a ∧ SqT K H1 a xs ∧ ∀ p, H1 p = none → Q (.ref p) (upd H1 p (.tup xs.reverse))
theorem pe_revT {e : Expr} {te : TE} {k : Nat} {p1 p2 p3 pos : Pos} (he : PE X e te) : PE X (.Subscript e (.Slice none none (some (.UnaryOp .USub (.Constant (.int 1) k p1) p2)) p3) pos) (tRevT X.K te) := by
  refine ⟨fun pins s σ H Q I h => ?_⟩
  refine Subscript_ (thn (he.run pins s σ H _ I h) fun v s1 ⟨x, H1, I1, r1, q1⟩ => ?_)
  obtain ⟨a, xs, ex, hx, q⟩ := q1; subst ex; cases r1
  have hst : PO X (some (.UnaryOp .USub (.Constant (.int 1) k p1) p2)) (tPart (tUn (rU fun i => .int (-i)) (tC (.int 1)))) := po_some (pe_un un_neg pe_int)
  refine wpAny_Slice (thn (po_none.run pins s1 σ H1 (fun o H2 => o = none ∧ H2 = H1) I1 ⟨rfl, rfl⟩) fun vl s2 ⟨l, H2, I2, pl, el, e2⟩ => ?_)
  subst el e2; refine thn (po_none.run pins s2 σ H2 (fun o H3 => o = none ∧ H3 = H2) I2 ⟨rfl, rfl⟩) fun vu s3 ⟨u, H3, I3, pu, eu, e3⟩ => ?_
  subst eu e3; refine thn (hst.run pins s3 σ H3 (fun o H4 => o = some (-1) ∧ H4 = H3) I3 ⟨1, rfl, -1, rfl, rfl, rfl⟩) fun vs s4 ⟨o, H4, I4, ps, eo, e4⟩ => ?_
  subst eo e4; cases pl; cases pu; cases ps with
  | int i t =>
    have I5 : Inv X pins σ H4 { s4 with heap := s4.heap.push { cls := .type "slice", data := .fields #[.none, .none, .int (-1) t] } } := I4.kept (t' := s4.toks) fun b ob q => Heap.get?_push_of_some _ q
    obtain ⟨its, r, ht, hz⟩ := I5.tuple hx
    have hlen := r.length
    show wpAny (model X.prog X.w) X.A (subscriptTail e (.Slice none none (some (.UnaryOp .USub (.Constant (.int 1) k p1) p2)) p3) (.ref a) (.ref s4.heap.objs.size)) (EP X pins σ Q) X.xe { s4 with heap := s4.heap.push { cls := .type "slice", data := .fields #[.none, .none, .int (-1) t] } }
    refine tail_any (ops := [.ref a, .ref s4.heap.objs.size]) ht.typeIs (PyProof.Rows.slot_tuple_getitem.lookup) ?_ (by with_unfolding_all rfl)
    refine getItem_rev ht (Heap.IsSliceOf.new _ .none .none (.int (-1) t)) ?_ (by rw [List.size_toArray]; omega)
    refine ⟨.ref _, _, I5.laid (t' := s4.toks) (o := .tup xs.reverse) (fun b ob q => Heap.get?_push_of_some _ q) (Nat.le_refl _) ?_, rfl, q _ (I5.hok.fresh (Nat.le_refl _))⟩
    exact ⟨by rw [List.length_reverse]; exact hz, _, r.reverse, IsTup.new _ _⟩
theorem pe_revTK {e : Expr} {te : TE} {k : Nat} {p1 p2 p3 pos : Pos} (K : PySem.W.Frag) (hK : X.K = K) (he : PE X e te) : PE X (.Subscript e (.Slice none none (some (.UnaryOp .USub (.Constant (.int 1) k p1) p2)) p3) pos) (tRevT K te) := hK ▸ pe_revT he
end
end K88

set_option maxHeartbeats 4000000
namespace K88
open PySem L2 Evl
/-! ### argument lists of which something is known; loops over anything that is walked -/
def EvAP (ta : TA) (σ : L2.St) (H : Hp) (P : List V → Hp → Prop) : Prop := ∀ H1, Ex H H1 → ∀ Q : List V → Hp → Prop, (∀ vs H2, Ex H1 H2 → P vs H2 → Q vs H2) → ta σ H1 Q
def SqA (H : Hp) (a : Addr) (xs : List V) : Prop := H a = some (.lst xs) ∨ H a = some (.tup xs)
theorem SqA.ex {H H' : Hp} {a : Addr} {xs : List V} (e : Ex H H') (h : SqA H a xs) : SqA H' a xs := h.imp (e _ _) (e _ _)
section
variable {K : PySem.W.Frag} {σ : L2.St} {H H' : Hp} {ta tb te tx : TE} {t u : TT} {x y z v : V} {r : R2} {P P' : V → Hp → Prop}
theorem eap_nil : EvAP tNil σ H (fun vs _ => vs = []) := fun H1 _ Q q => q [] H1 (Ex.refl _) rfl
theorem eap_cons {tr : TA} {R : List V → Hp → Prop} (h : EvP ta σ H P) (sta : Sta P) (hr : EvAP tr σ H R) : EvAP (tCons ta tr) σ H (fun vs H2 => ∃ x r, vs = x :: r ∧ P x H2 ∧ R r H2) := fun H1 e Q q =>
  h H1 e _ fun x H2 e2 p => hr H2 (e.trans e2) _ fun r H3 e3 pr => q _ H3 (e2.trans e3) ⟨x, r, rfl, sta _ _ _ e3 p, pr⟩
theorem ep_callA {sp : Sp} {ta : TA} {PA : List V → Hp → Prop} {E : XK} (h : EvAP ta σ H PA) (hs : ∀ vs H1, Ex H H1 → PA vs H1 → ∀ Q : VK, RetP P H1 Q → ∀ E : XK, sp vs H1 Q E) : EvP (tCall sp [] E ta) σ H P := fun H1 e Q q =>
  h H1 e _ fun vs H2 e2 p => by
    show sp (vs ++ []) H2 Q E
    rw [List.append_nil]
    exact hs vs H2 (e.trans e2) p Q (fun v H3 e3 p => q v H3 (e2.trans e3) p) E
theorem ev_callA {sp : Sp} {ta : TA} {PA : List V → Hp → Prop} {E : XK} (h : EvAP ta σ H PA) (hs : ∀ vs H1, Ex H H1 → PA vs H1 → ∀ Q : VK, RetV z H1 Q → ∀ E : XK, sp vs H1 Q E) : Ev (tCall sp [] E ta) σ H z := fun H1 e Q q =>
  h H1 e _ fun vs H2 e2 p => by
    show sp (vs ++ []) H2 Q E
    rw [List.append_nil]
    exact hs vs H2 (e.trans e2) p Q (fun H3 e3 => q H3 (e2.trans e3)) E
/-- an item of a list or a tuple -/
theorem ev_ixA {p : Addr} {xs : List V} {i : Nat} (hp : Ev ta σ H (.ref p)) (hi : Ev tb σ H (.int (i : Int))) (h : SqA H p xs) (ha : xs[i]? = some v) : Ev (tOp (rIx K) ta tb) σ H v := ev_op hp hi fun H1 e Q q => by
  rcases h with h | h
  · exact .inl (rv_ixL' h ha H1 e Q q)
  · exact .inr (.inl (rv_ixT' h ha H1 e Q q))
theorem ev_lenA {p : Addr} {xs : List V} (ha : Ev ta σ H (.ref p)) (h : SqA H p xs) : Ev (tCB (rLen K) (tCons ta tNil)) σ H (.int (xs.length : Int)) := by
  rcases h with h | h
  · exact ev_lenL ha h
  · exact ev_lenT ha h
variable {D : Ends} {tu tw tz : TS} {g : TG} {wi : TI} {J : It} {n : Nat} {G : Hp → Prop} {Y : Nat → Hp → V → Hp → Prop}
theorem s_forW (hw : EvI wi σ H J) (w : Walk J n G Y) (Pv : Nat → L2.St → Hp → Prop) (h0 : ∀ H1, Ex H H1 → Pv 0 σ H1) (hG : ∀ i σ' H', i ≤ n → Pv i σ' H' → G H')
    (hs : ∀ i x σ' Ha Hb, i < n → Pv i σ' Ha → Y i Ha x Hb → g x σ' Hb fun σ2 H2 => tu { D with nx := Pv (i + 1), ct := Pv (i + 1), bk := D.nx } σ2 H2) (hd : ∀ σ' H', Pv n σ' H' → D.nx σ' H') : tFor wi g tu D σ H :=
  hw.go H (Ex.refl _) _ fun H1 e => for_it w Pv (h0 H1 e) hG hs hd
theorem s_forZT {a b : Addr} {xs ys : List V} {ta : TA} {j k : Nat} (h : EvA ta σ H [.ref a, .ref b]) (hx : H a = some (.tup xs)) (hy : H b = some (.tup ys)) (Pv : Nat → L2.St → Hp → Prop) (hn : n = min xs.length ys.length)
    (h0 : ∀ H1, Ex H H1 → Pv 0 σ H1) (hG : ∀ i σ' H', Pv i σ' H' → Ex H H')
    (hs : ∀ (i : Nat) x y T σ' Ha, xs[i]? = some x → ys[i]? = some y → Pv i σ' Ha → Ha T = none → tu { D with nx := Pv (i + 1), ct := Pv (i + 1), bk := D.nx } ((σ'.set j (some x)).set k (some y)) (upd Ha T (.tup [x, y])))
    (hd : ∀ σ' H', Pv n σ' H' → D.nx σ' H') : tFor (RZ.iZipA K ta) (gTup K 2 (gCons (gName j) (gCons (gName k) gNil))) tu D σ H :=
  s_forW (ei_zipT h hx hy) (walk_zipT hn) Pv h0 (fun i σ' H' _ p => ⟨st_of (hG i σ' H' p _ _ hx), st_of (hG i σ' H' p _ _ hy)⟩) (fun i v σ' Ha Hb hi p ⟨T, x, y, h1, h2, h3, h4, h5⟩ => by
    subst h1 h3
    exact tgt_pair upd_same _ (hs i x y T σ' Ha h4 h5 p h2)) hd
theorem s_forZL {a b : Addr} {xs ys : List V} {ta : TA} {j k : Nat} (h : EvA ta σ H [.ref a, .ref b]) (hx : H a = some (.lst xs)) (hy : H b = some (.lst ys)) (Pv : Nat → L2.St → Hp → Prop) (hn : n = min xs.length ys.length)
    (h0 : ∀ H1, Ex H H1 → Pv 0 σ H1) (hG : ∀ i σ' H', Pv i σ' H' → H' a = some (.lst xs) ∧ H' b = some (.lst ys))
    (hs : ∀ (i : Nat) x y T σ' Ha, xs[i]? = some x → ys[i]? = some y → Pv i σ' Ha → Ha T = none → tu { D with nx := Pv (i + 1), ct := Pv (i + 1), bk := D.nx } ((σ'.set j (some x)).set k (some y)) (upd Ha T (.tup [x, y])))
    (hd : ∀ σ' H', Pv n σ' H' → D.nx σ' H') : tFor (iZip K ta) (gTup K 2 (gCons (gName j) (gCons (gName k) gNil))) tu D σ H :=
  s_forW (ei_zipL h hx hy) (walk_zip hn) Pv h0 (fun i σ' H' _ p => ⟨sq_of (hG i σ' H' p).1, sq_of (hG i σ' H' p).2⟩) (fun i v σ' Ha Hb hi p ⟨T, x, y, h1, h2, h3, h4, h5⟩ => by
    subst h1 h3
    exact tgt_pair upd_same _ (hs i x y T σ' Ha h4 h5 p h2)) hd
theorem s_forEn {a : Addr} {xs : List V} {ta : TA} {j k : Nat} (h : EvA ta σ H [.ref a]) (hx : H a = some (.lst xs)) (Pv : Nat → L2.St → Hp → Prop)
    (h0 : ∀ H1, Ex H H1 → Pv 0 σ H1) (hG : ∀ i σ' H', Pv i σ' H' → H' a = some (.lst xs))
    (hs : ∀ (i : Nat) x T σ' Ha, xs[i]? = some x → Pv i σ' Ha → Ha T = none → tu { D with nx := Pv (i + 1), ct := Pv (i + 1), bk := D.nx } ((σ'.set j (some (.int (i : Int)))).set k (some x)) (upd Ha T (.tup [.int (i : Int), x])))
    (hd : ∀ σ' H', Pv xs.length σ' H' → D.nx σ' H') : tFor (iEnum K ta) (gTup K 2 (gCons (gName j) (gCons (gName k) gNil))) tu D σ H :=
  s_forW (ei_enum h hx) walk_enum Pv h0 (fun i σ' H' _ p => sq_of (hG i σ' H' p)) (fun i v σ' Ha Hb hi p ⟨T, x, y, h1, h2, h3, h4, h5⟩ => by
    subst h1 h3
    cases h4
    exact tgt_pair upd_same _ (hs i y T σ' Ha h5 p h2)) hd
theorem q_seq {t u : TS} (h : t { D with nx := u D } σ H) : tSeq t u D σ H := h
end
/-- unpacking a tuple of five -/
theorem tgt_5 {K : PySem.W.Frag} {i1 i2 i3 i4 i5 : Nat} {T : Addr} {a b c d e : V} {σ : L2.St} {Hb : Hp} (h : Hb T = some (.tup [a, b, c, d, e])) :
    Tgt (gTup K 5 (gCons (gName i1) (gCons (gName i2) (gCons (gName i3) (gCons (gName i4) (gCons (gName i5) gNil)))))) (.ref T) σ Hb (((((σ.set i1 (some a)).set i2 (some b)).set i3 (some c)).set i4 (some d)).set i5 (some e)) := fun R q =>
  ⟨T, [a, b, c, d, e], rfl, .inl (.inl h), rfl, a, _, rfl, b, _, rfl, c, _, rfl, d, _, rfl, e, [], rfl, rfl, q⟩
/-! ### _law_dot -/
end K88

set_option maxHeartbeats 4000000
namespace K88
open PySem L2 Evl
/-! ### the draws: the law's state -/
/-- all stands but what stands at st -/
def Exs (st : Addr) (H H' : Hp) : Prop := ∀ b o, b ≠ st → H b = some o → H' b = some o
theorem Exs.refl {st : Addr} (H : Hp) : Exs st H H := fun _ _ _ h => h
theorem Exs.trans {st : Addr} {H H1 H2 : Hp} (a : Exs st H H1) (b : Exs st H1 H2) : Exs st H H2 := fun x o n h => b x o n (a x o n h)
theorem Ex.s {st : Addr} {H H' : Hp} (e : Ex H H') : Exs st H H' := fun b o _ h => e b o h
theorem Exs.upd {st : Addr} {H H' : Hp} {o : HO} (e : Exs st H H') : Exs st H (upd H' st o) := fun b u n h => by rw [upd_ne n]; exact e b u n h
/-- the state stands at st: the script's ints at l, a place, a rest, a count -/
def StOk (st l : Addr) (ns : List Int) (H : Hp) : Prop := H l = some (.lst (ns.map V.int)) ∧ ∃ a b c : Int, H st = some (.lst [.ref l, .int a, .int b, .int c])
theorem StOk.ne {st l : Addr} {ns : List Int} {H : Hp} (h : StOk st l ns H) : l ≠ st := by
  obtain ⟨h1, a, b, c, h2⟩ := h
  intro e
  rw [e, h2] at h1
  cases ns <;> simp at h1
theorem StOk.ex {st l : Addr} {ns : List Int} {H H' : Hp} (h : StOk st l ns H) (e : Ex H H') : StOk st l ns H' := by
  obtain ⟨h1, a, b, c, h2⟩ := h
  exact ⟨e _ _ h1, a, b, c, e _ _ h2⟩
def spDraw : Sp := fun vs H Q _ => ∃ (st l : Addr) (ns : List Int) (most : Int), vs = [.ref st, .int most] ∧ 0 < most ∧ most ≤ 1000 ∧ ns.length ≤ 1000 ∧ StOk st l ns H ∧ ∀ (r : Int) H', 0 ≤ r → r < most → Exs st H H' → StOk st l ns H' → Q (.int r) H'
section
variable {K : PySem.W.Frag} {σ : L2.St} {H H' : Hp} {ta tb te tx : TE}
theorem ev_int1 {i : Int} (ha : Ev ta σ H (.int i)) : Ev (tCB (fun xs H Q => (∃ i, xs = [V.int i] ∧ Q (V.int i) H) ∨ ∃ k, xs = [V.bl k] ∧ Q (V.int (if k then 1 else 0)) H) (tCons ta tNil)) σ H (.int i) := fun H1 e Q q => ha H1 e _ fun H2 e2 => .inl ⟨i, rfl, q H2 e2⟩
theorem ev_abs {i : Int} (ha : Ev ta σ H (.int i)) : Ev (tCB (fun xs H Q => ∃ i, xs = [V.int i] ∧ Q (V.int (if i < 0 then -i else i)) H) (tCons ta tNil)) σ H (.int (if i < 0 then -i else i)) := fun H1 e Q q => ha H1 e _ fun H2 e2 => ⟨i, rfl, q H2 e2⟩
theorem rv_mulR {i j : Int} (h : -(2 ^ 64) < j ∧ j < 2 ^ 64) : RV (rI CMul fun i j => .int (i * j)) (.int i) (.int j) H (.int (i * j)) := rv_I (.inr h)
theorem rv_mod {i j : Int} (h : 0 < j) : RV (rI (fun _ j => 0 < j) fun i j => .int (i % j)) (.int i) (.int j) H (.int (i % j)) := rv_I h
end
section
variable {P : Program} {w : World} {K : PySem.W.Frag} {mg : Str → Option Value} {base : Heap}
theorem sc_law_draw : FnScope ["state", "most", "found", "cell", "mixed"] ["state", "most"] (defScope (topS 23)) := ⟨rfl, rfl, rfl, by decide +kernel, rfl, by decide +kernel, by decide +kernel⟩
theorem ok_law_draw {f : Addr} {fd : FuncData} (F : FnP K "_law_draw" "_law_draw" (topS 23) f fd) (T : Bt mg) : FnOk P w K mg base CX0 1 f fd ["state", "most"] spDraw := by
  refine F.ok sc_law_draw (fun vs H Q E h => ?_) (fun cdv A outer s H vs Q E hr h => ?_)
  · obtain ⟨st, l, ns, most, rfl, _⟩ := h
    rfl
  · obtain ⟨st, l, ns, most, rfl, m0, m1, hn, hS, k⟩ := h
    have hne := hS.ne
    obtain ⟨hl, a, b, c, hst⟩ := hS
    have mb : most.natAbs < 2 ^ 10 := by omega
    refine ⟨_, PSs.nox
      (pss_cons (ps_asg (pe_op op_add (pe_ix (ix_listK K rfl) (pv 0) pe_int (fun _ _ => rfl)) pe_int) (pg_sub (pv 0) pe_int set_list))
      (pss_cons (ps_if (pt_cmpR op_gt (pe_ix (ix_listK K rfl) (pv 0) pe_int (fun _ _ => rfl)) pe_int (nomark _)) (pss_cons (ps_set (i := 2) sc_law_draw.nd rfl (Or.inl rfl) (pe_op op_mod (pe_callTy call_int1 (by rfl) T.m_int (by decide +kernel) (pa_cons (pe_ix (ix_listK K rfl) (pv 0) pe_int (fun _ _ => rfl)) pa_nil)) (pv 1)))
      (pss_cons (ps_asg (pe_op op_fdivW (pe_ix (ix_listK K rfl) (pv 0) pe_int (fun _ _ => rfl)) (pv 1)) (pg_sub (pv 0) pe_int set_list))
      (pss_one (ps_ret (pv 2))))) pss_nil)
      (pss_cons (ps_set (i := 3) sc_law_draw.nd rfl (Or.inl rfl) pe_int)
      (pss_cons (ps_if (pt_cmpR op_gt (pe_callB (call_lenK K rfl) (by rfl) T.m_len (by decide +kernel) (pa_cons (pe_ix (ix_listK K rfl) (pv 0) pe_int (fun _ _ => rfl)) pa_nil)) pe_int (nomark _)) (pss_one (ps_set (i := 3) sc_law_draw.nd rfl (Or.inl rfl) (pe_callB call_abs (by rfl) T.m_abs (by decide +kernel) (pa_cons (pe_ix (ix_listK K rfl) (pe_ix (ix_listK K rfl) (pv 0) pe_int (fun _ _ => rfl)) (pe_op op_mod (pe_callTy call_int1 (by rfl) T.m_int (by decide +kernel) (pa_cons (pe_ix (ix_listK K rfl) (pv 0) pe_int (fun _ _ => rfl)) pa_nil)) (pe_callB (call_lenK K rfl) (by rfl) T.m_len (by decide +kernel) (pa_cons (pe_ix (ix_listK K rfl) (pv 0) pe_int (fun _ _ => rfl)) pa_nil))) (fun _ _ => rfl)) pa_nil)))) pss_nil)
      (pss_cons (ps_asg (pe_op op_add (pe_ix (ix_listK K rfl) (pv 0) pe_int (fun _ _ => rfl)) pe_int) (pg_sub (pv 0) pe_int set_list))
      (pss_cons (ps_if (pt_cmpR op_ge (pv 3) (pe_op op_pow pe_int pe_int) (nomark _)) (pss_cons (ps_asg (pe_op op_fdivW (pv 3) (pv 1)) (pg_sub (pv 0) pe_int set_list))
      (pss_one (ps_ret (pe_op op_mod (pe_callTy call_int1 (by rfl) T.m_int (by decide +kernel) (pa_cons (pv 3) pa_nil)) (pv 1))))) pss_nil)
      (pss_cons (ps_set (i := 4) sc_law_draw.nd rfl (Or.inl rfl) (pe_op op_mod (pe_callTy call_int1 (by rfl) T.m_int (by decide +kernel) (pa_cons (pe_op op_add (pe_op op_mul (pe_op op_add (pv 3) pe_int) pe_int) (pe_op op_mul (pe_ix (ix_listK K rfl) (pv 0) pe_int (fun _ _ => rfl)) pe_int)) pa_nil)) pe_int))
      (pss_cons (ps_set (i := 4) sc_law_draw.nd rfl (Or.inl rfl) (pe_op op_mod (pe_callTy call_int1 (by rfl) T.m_int (by decide +kernel) (pa_cons (pe_op op_add (pe_op op_add (pe_op op_mul (pv 4) pe_int) (pe_op op_fdivW (pv 3) pe_int)) (pe_ix (ix_listK K rfl) (pv 0) pe_int (fun _ _ => rfl))) pa_nil)) pe_int))
      (pss_one (ps_ret (pe_op op_mod (pe_op op_fdivW (pv 4) pe_int) (pv 1)))))))))))), ?_⟩
    -- state[3] = state[3] + 1
    refine q_setL hst (ev_op (ev_ixL (i := 3) (ev_var rfl) ev_c hst rfl) ev_c rv_I0) (ev_var rfl) (ev_c (v := .int ((3 : Nat) : Int))) (by simp) fun H1 e1 => ?_
    generalize hH2 : upd H1 st (.lst (List.set [V.ref l, V.int a, V.int b, V.int c] 3 (V.int (c + 1)))) = H2
    have x2 : Exs st H H2 := by rw [← hH2]; exact (Ex.s e1).upd
    have s2 : H2 st = some (.lst [V.ref l, V.int a, V.int b, V.int (c + 1)]) := by rw [← hH2]; exact upd_same
    clear hH2 e1
    refine q_when (et_test (ev_op (ev_ixL (i := 2) (ev_var rfl) ev_c s2 rfl) ev_c rv_I0)) (fun hb H3 e3 => ?_) (fun hb H3 e3 => ?_)
    · -- found = int(state[2]) % most; state[2] = state[2] // most; return found
      have s3 := e3 _ _ s2
      refine q_asg (ev_op (ev_int1 (ev_ixL (i := 2) (ev_var rfl) ev_c s3 rfl)) (ev_var rfl) (rv_mod m0)) fun H4 e4 => ?_
      have s4 := e4 _ _ s3
      refine q_setL s4 (ev_op (ev_ixL (i := 2) (ev_var rfl) ev_c s4 rfl) (ev_var rfl) (rv_fdivW m0 mb (by decide))) (ev_var rfl) (ev_c (v := .int ((2 : Nat) : Int))) (by simp) fun H5 e5 => ?_
      refine s_ret (ev_var rfl) fun H6 e6 => ?_
      have x6 : Exs st H H6 := ((x2.trans (Ex.s ((e3.trans e4).trans e5))).upd).trans (Ex.s e6)
      refine k _ H6 (Int.emod_nonneg _ (by omega)) (Int.emod_lt_of_pos _ m0) x6 ⟨x6 _ _ hne hl, a, _, c + 1, e6 _ _ upd_same⟩
    have x3 := x2.trans (Ex.s (st := st) e3)
    have s3 := e3 _ _ s2
    have l3 := x3 _ _ hne hl
    -- cell = 0; if len(state[0]) > 0: cell = abs(..)
    refine q_asg ev_c fun H4 e4 => ?_
    have s4 := e4 _ _ s3
    have l4 := e4 _ _ l3
    obtain ⟨cell, hc0, hcell⟩ : ∃ cell : Int, 0 ≤ cell ∧ ∀ (D : Ends) (tz : TS), (∀ H5, Ex H4 H5 → tz D [some (.ref st), some (.int most), none, some (.int cell), none] H5) →
        tSeq (tIfS (tTest (tOp (rI0 fun i j => V.bl (decide (j < i))) (tCB (rLen K) (tCons (tOp (rIxL K) (tVar 0) (tC (.int 0))) tNil)) (tC (.int 0)))) (tAsg (tCB (fun xs H Q => ∃ i, xs = [V.int i] ∧ Q (V.int (if i < 0 then -i else i)) H) (tCons (tOp (rIxL K) (tOp (rIxL K) (tVar 0) (tC (.int 0))) (tOp (rI (fun _ j => 0 < j) fun i j => V.int (i % j)) (tCB (fun xs H Q => (∃ i, xs = [V.int i] ∧ Q (V.int i) H) ∨ ∃ k, xs = [V.bl k] ∧ Q (V.int (if k then 1 else 0)) H) (tCons (tOp (rIxL K) (tVar 0) (tC (.int 1))) tNil)) (tCB (rLen K) (tCons (tOp (rIxL K) (tVar 0) (tC (.int 0))) tNil)))) tNil)) (gName 3)) tNext) tz D
          [some (.ref st), some (.int most), none, some (.int 0), none] H4 := by
      by_cases hz : ns = []
      · refine ⟨0, by omega, fun D tz q => ?_⟩
        refine q_when (b := false) (et_test (ev_is (ev_op (ev_lenL (ev_ixL (i := 0) (ev_var rfl) ev_c s4 rfl) l4) ev_c rv_I0) (by rw [hz]; rfl))) (fun hb => by cases hb) (fun _ H5 e5 => q H5 e5)
      · have hpos : 0 < ns.length := List.length_pos_iff.mpr hz
        have hj0 : 0 ≤ a % (ns.length : Int) := Int.emod_nonneg _ (by omega)
        have hj1 : a % (ns.length : Int) < (ns.length : Int) := Int.emod_lt_of_pos _ (by omega)
        obtain ⟨j, hj⟩ : ∃ j : Nat, a % (ns.length : Int) = (j : Int) := ⟨(a % (ns.length : Int)).toNat, by omega⟩
        refine ⟨if ns.getD j 0 < 0 then -(ns.getD j 0) else ns.getD j 0, by split <;> omega, fun D tz q => ?_⟩
        refine q_when (b := true) (et_test (ev_is (ev_op (ev_lenL (ev_ixL (i := 0) (ev_var rfl) ev_c s4 rfl) l4) ev_c rv_I0) (by rw [List.length_map]; exact congrArg V.bl (decide_eq_true (by omega))))) (fun _ H5 e5 => ?_) (fun hb => by cases hb)
        have s5 := e5 _ _ s4
        have l5 := e5 _ _ l4
        refine s_asg (ev_abs (ev_ixL (i := j) (ev_ixL (i := 0) (ev_var rfl) ev_c s5 rfl) (ev_is (ev_op (ev_int1 (ev_ixL (i := 1) (ev_var rfl) ev_c s5 rfl)) (ev_lenL (ev_ixL (i := 0) (ev_var rfl) ev_c s5 rfl) l5) (rv_mod (by rw [List.length_map]; omega))) (by rw [List.length_map, hj])) l5 (vget (by omega)))) fun H6 e6 => q H6 (e5.trans e6)
    refine hcell _ _ fun H5 e5 => ?_
    have s5 := e5 _ _ s4
    have x5 := x3.trans (Ex.s (st := st) (e4.trans e5))
    -- state[1] = state[1] + 1
    refine q_setL s5 (ev_op (ev_ixL (i := 1) (ev_var rfl) ev_c s5 rfl) ev_c rv_I0) (ev_var rfl) (ev_c (v := .int ((1 : Nat) : Int))) (by simp) fun H6 e6 => ?_
    generalize hH7 : upd H6 st (.lst (List.set [V.ref l, V.int a, V.int b, V.int (c + 1)] 1 (V.int (a + 1)))) = H7
    have x7 : Exs st H H7 := by rw [← hH7]; exact (x5.trans (Ex.s e6)).upd
    have s7 : H7 st = some (.lst [V.ref l, V.int (a + 1), V.int b, V.int (c + 1)]) := by rw [← hH7]; exact upd_same
    clear hH7 e6
    -- if cell >= 10 ** 18
    refine q_when (et_test (ev_op (ev_var rfl) (ev_op ev_c ev_c (rv_I ⟨by decide, by decide, by decide⟩)) rv_I0)) (fun hb H8 e8 => ?_) (fun hb H8 e8 => ?_)
    · have s8 := e8 _ _ s7
      refine q_setL s8 (ev_op (ev_var rfl) (ev_var rfl) (rv_fdivW m0 mb (by decide))) (ev_var rfl) (ev_c (v := .int ((2 : Nat) : Int))) (by simp) fun H9 e9 => ?_
      refine s_ret (ev_op (ev_int1 (ev_var rfl)) (ev_var rfl) (rv_mod m0)) fun H10 e10 => ?_
      have x10 : Exs st H H10 := ((x7.trans (Ex.s (e8.trans e9))).upd).trans (Ex.s e10)
      exact k _ H10 (Int.emod_nonneg _ (by omega)) (Int.emod_lt_of_pos _ m0) x10 ⟨x10 _ _ hne hl, a + 1, _, c + 1, e10 _ _ upd_same⟩
    have s8 := e8 _ _ s7
    refine q_asg (ev_op (ev_int1 (ev_op (ev_op (ev_op (ev_var rfl) ev_c rv_I0) ev_c (rv_mulR ⟨by decide, by decide⟩)) (ev_op (ev_ixL (i := 3) (ev_var rfl) ev_c s8 rfl) ev_c (rv_mulR ⟨by decide, by decide⟩)) rv_I0)) ev_c (rv_mod (by decide))) fun H9 e9 => ?_
    have s9 := e9 _ _ s8
    refine q_asg (ev_op (ev_int1 (ev_op (ev_op (ev_op (ev_var rfl) ev_c (rv_mulR ⟨by decide, by decide⟩)) (ev_op (ev_var rfl) ev_c (rv_fdivW (b := 10) (by decide) (by decide) (by decide))) rv_I0) (ev_ixL (i := 3) (ev_var rfl) ev_c s9 rfl) rv_I0)) ev_c (rv_mod (by decide))) fun H10 e10 => ?_
    refine s_ret (ev_op (ev_op (ev_var rfl) ev_c (rv_fdivW (b := 10) (by decide) (by decide) (by decide))) (ev_var rfl) (rv_mod m0)) fun H11 e11 => ?_
    have x11 : Exs st H H11 := x7.trans (Ex.s (((e8.trans e9).trans e10).trans e11))
    exact k _ H11 (Int.emod_nonneg _ (by omega)) (Int.emod_lt_of_pos _ m0) x11 ⟨x11 _ _ hne hl, a + 1, b, c + 1, ((e9.trans e10).trans e11) _ _ s8⟩
end
end K88

set_option maxHeartbeats 4000000
namespace K88
open PySem L2 Evl
/-! ### data through the draws -/
section
variable {K : PySem.W.Frag} {H H' : Hp} {st : Addr}
mutual
theorem Rep.exs {ys : List V} (hs : H st = some (.lst ys)) (e : Exs st H H') : ∀ {v : V} {d : Da}, Rep K H v d → Rep K H' v d
  | _, .i _, h => h
  | _, .s _, h => h
  | _, .t l, h => by
    unfold Rep at h ⊢
    obtain ⟨a, vs, e1, e2, e3⟩ := h
    exact ⟨a, vs, e1, e _ _ (fun z => by rw [z, hs] at e2; cases e2) e2, Reps.exs hs e e3⟩
theorem Reps.exs {ys : List V} (hs : H st = some (.lst ys)) (e : Exs st H H') : ∀ {vs : List V} {l : List Da}, Reps K H vs l → Reps K H' vs l
  | _, [], h => h
  | _, d :: l, h => by
    unfold Reps at h ⊢
    obtain ⟨v, r, e1, e2, e3⟩ := h
    exact ⟨v, r, e1, Rep.exs hs e e2, Reps.exs hs e e3⟩
end
theorem Reps.append : ∀ {vs ws : List V} {l m : List Da}, Reps K H vs l → Reps K H ws m → Reps K H (vs ++ ws) (l ++ m)
  | _, _, [], _, h, h' => by unfold Reps at h; subst h; exact h'
  | _, ws, d :: l, m, h, h' => by
    unfold Reps at h
    obtain ⟨v, r, rfl, e2, e3⟩ := h
    show Reps K H (v :: (r ++ ws)) (d :: (l ++ m))
    unfold Reps
    exact ⟨v, _, rfl, e2, Reps.append e3 h'⟩
theorem Reps.nil_ : Reps K H [] [] := by unfold Reps; rfl
theorem Reps.cons_ {v : V} {d : Da} {vs : List V} {l : List Da} (h : Rep K H v d) (h' : Reps K H vs l) : Reps K H (v :: vs) (d :: l) := by unfold Reps; exact ⟨v, vs, rfl, h, h'⟩
theorem Reps.take : ∀ (n : Nat) {vs : List V} {l : List Da}, Reps K H vs l → Reps K H (vs.take n) (l.take n)
  | 0, _, _, _ => Reps.nil_
  | _ + 1, _, [], h => by unfold Reps at h; subst h; exact Reps.nil_
  | n + 1, _, d :: l, h => by
    unfold Reps at h
    obtain ⟨v, r, rfl, e2, e3⟩ := h
    exact Reps.cons_ e2 (Reps.take n e3)
theorem Reps.drop : ∀ (n : Nat) {vs : List V} {l : List Da}, Reps K H vs l → Reps K H (vs.drop n) (l.drop n)
  | 0, _, _, h => h
  | _ + 1, _, [], h => by unfold Reps at h; subst h; exact Reps.nil_
  | n + 1, _, d :: l, h => by
    unfold Reps at h
    obtain ⟨v, r, rfl, e2, e3⟩ := h
    exact Reps.drop n e3
theorem Reps.reverse : ∀ {vs : List V} {l : List Da}, Reps K H vs l → Reps K H vs.reverse l.reverse
  | _, [], h => by unfold Reps at h; subst h; exact Reps.nil_
  | _, d :: l, h => by
    unfold Reps at h
    obtain ⟨v, r, rfl, e2, e3⟩ := h
    rw [List.reverse_cons, List.reverse_cons]
    exact Reps.append (Reps.reverse e3) (Reps.cons_ e2 Reps.nil_)
theorem rep_t {a : Addr} {vs : List V} {l : List Da} (h : H a = some (.tup vs)) (r : Reps K H vs l) : Rep K H (.ref a) (.t l) := by unfold Rep; exact ⟨a, vs, rfl, h, r⟩
end
/-! ### slices and sums of tuples, as Evs -/
theorem cutV_eq (xs : List V) (lo hi : Option Int) : cutV xs lo hi = (xs.take (HT.sIx xs.length xs.length hi)).drop (HT.sIx xs.length 0 lo) := by
  unfold cutV
  rw [List.drop_take]
theorem sIx_z (n d : Nat) (k : Nat) (h : k ≤ n) : HT.sIx n d (some (k : Int)) = k := by rw [HT.sIx_nat]; omega
section
variable {K : PySem.W.Frag} {σ : L2.St} {H H' : Hp} {ta tb te tx : TE} {tl th : TO} {x y z v : V} {P P' : V → Hp → Prop}
theorem ep_slT {a : Addr} {xs : List V} {lo hi : Option Int} (h : Ev te σ H (.ref a)) (h1 : EvO tl σ H lo) (h2 : EvO th σ H hi) (hs : H a = some (.tup xs)) : EvP (tSl (rSlA K) te tl th) σ H (IsU (cutV xs lo hi)) := fun H1 e Q q =>
  h H1 e _ fun H2 e2 => h1 H2 (e.trans e2) _ fun H3 e3 => h2 H3 ((e.trans e2).trans e3) _ fun H4 e4 => by
    have e14 := (e2.trans e3).trans e4
    have hs4 := e14 _ _ (e _ _ hs)
    refine ⟨a, xs, rfl, st_of hs4, fun hw => q _ H4 e14 ⟨a, rfl, ?_⟩, fun _ p hp => q _ _ (e14.trans (Ex.new hp)) ⟨p, rfl, upd_same⟩⟩
    unfold cutV
    rw [hw.1, hw.2, List.drop_zero, Nat.sub_zero, List.take_length]
    exact hs4
theorem ep_catT {xs ys : List V} (ha : EvP ta σ H (IsU xs)) (hb : EvP tb σ H (IsU ys)) (hz : xs.length + ys.length ≤ 100000) : EvP (tOp (rCatA K) ta tb) σ H (IsU (xs ++ ys)) := fun H1 e Q q =>
  ha H1 e _ fun x H2 e2 ⟨p, hp, h1⟩ => hb H2 (e.trans e2) _ fun y H3 e3 ⟨p2, hp2, h2⟩ => by
    subst hp hp2
    have e13 := e2.trans e3
    refine ⟨p, p2, xs, ys, rfl, rfl, st_of (e3 _ _ h1), st_of h2, sz_of hz, fun hx => q _ H3 e13 ⟨p2, rfl, by rw [hx]; exact h2⟩, fun _ hy => q _ H3 e13 ⟨p, rfl, by rw [hy, List.append_nil]; exact e3 _ _ h1⟩, fun _ _ p3 hp3 => q _ _ (e13.trans (Ex.new hp3)) ⟨p3, rfl, upd_same⟩⟩
theorem ep_revT {a : Addr} {xs : List V} (h : Ev te σ H (.ref a)) (hs : H a = some (.tup xs)) : EvP (tRevT K te) σ H (IsU xs.reverse) := fun H1 e Q q =>
  h H1 e _ fun H2 e2 => ⟨a, xs, rfl, st_of (e2 _ _ (e _ _ hs)), fun p hp => q _ _ (e2.trans (Ex.new hp)) ⟨p, rfl, upd_same⟩⟩
/-- every item good -/
def Good (K : PySem.W.Frag) (k : Nat) : V → Hp → Prop := fun v H => ∃ d, Rep K H v d ∧ Fit k d
theorem sta_good {k : Nat} : Sta (Good K k) := fun _ _ _ e ⟨d, h1, h2⟩ => ⟨d, h1.ex e, h2⟩
theorem Good.exs {st : Addr} {ys : List V} {k : Nat} (hs : H st = some (.lst ys)) (e : Exs st H H') (h : Good K k v H) : Good K k v H' := by
  obtain ⟨d, h1, h2⟩ := h
  exact ⟨d, h1.exs hs e, h2⟩
theorem eag_nil {k : Nat} : EvAP tNil σ H (fun vs H2 => vs.length = 0 ∧ ∀ v, v ∈ vs → Good K k v H2) := fun H1 _ Q q => q [] H1 (Ex.refl _) ⟨rfl, fun v hv => by cases hv⟩
theorem eag_cons {tr : TA} {k n : Nat} (h : EvP ta σ H (Good K k)) (hr : EvAP tr σ H (fun vs H2 => vs.length = n ∧ ∀ v, v ∈ vs → Good K k v H2)) : EvAP (tCons ta tr) σ H (fun vs H2 => vs.length = n + 1 ∧ ∀ v, v ∈ vs → Good K k v H2) := fun H1 e Q q =>
  h H1 e _ fun x H2 e2 p => hr H2 (e.trans e2) _ fun r H3 e3 pr => q _ H3 (e2.trans e3) ⟨by rw [List.length_cons, pr.1], fun v hv => by
    rcases List.mem_cons.mp hv with rfl | hv
    · exact sta_good _ _ _ e3 p
    · exact pr.2 v hv⟩
/-- a new list of good items -/
def GoodL (K : PySem.W.Frag) (k n : Nat) : V → Hp → Hp → Prop := fun v H1 H2 => ∃ p xs, v = .ref p ∧ H1 p = none ∧ H2 p = some (.lst xs) ∧ xs.length = n ∧ ∀ v, v ∈ xs → Good K k v H2
theorem ef_lst {ta : TA} {k n : Nat} (h : EvAP ta σ H (fun vs H2 => vs.length = n ∧ ∀ v, v ∈ vs → Good K k v H2)) (hn : n ≤ 1000) : EvF (tLst ta) σ H (GoodL K k n) := fun H1 e Q q =>
  h H1 e _ fun vs H2 e2 ⟨p1, p2⟩ => ⟨sz_of (by omega), fun p hp => q _ _ (e2.trans (Ex.new hp)) ⟨p, vs, rfl, fresh_back e2 hp, upd_same, p1, fun v hv => sta_good _ _ _ (Ex.new hp) (p2 v hv)⟩⟩
def GoodP (K : PySem.W.Frag) (k n : Nat) : V → Hp → Prop := fun v H => ∃ p xs, v = .ref p ∧ H p = some (.lst xs) ∧ xs.length = n ∧ ∀ v, v ∈ xs → Good K k v H
theorem ep_goodL {k n : Nat} (h : EvF te σ H (GoodL K k n)) : EvP te σ H (GoodP K k n) := fun H1 e Q q => h H1 e Q fun v H2 e2 ⟨p, xs, h1, _, h3⟩ => q v H2 e2 ⟨p, xs, h1, h3⟩
theorem ef_cat {k n m : Nat} (ha : EvP ta σ H (GoodP K k n)) (hb : EvP tb σ H (GoodP K k m)) (hz : n + m ≤ 1000) : EvF (tOp rCat ta tb) σ H (GoodL K k (n + m)) := fun H1 e Q q =>
  ha H1 e _ fun x H2 e2 ⟨p, xs, hx, h1, l1, g1⟩ => hb H2 (e.trans e2) _ fun y H3 e3 ⟨p2, ys, hy, h2, l2, g2⟩ => by
    subst hx hy
    refine ⟨p, p2, xs, ys, rfl, rfl, e3 _ _ h1, h2, sz_of (by omega), fun p3 hp3 => q _ _ ((e2.trans e3).trans (Ex.new hp3)) ⟨p3, xs ++ ys, rfl, fresh_back (e2.trans e3) hp3, upd_same, by rw [List.length_append, l1, l2], fun v hv => ?_⟩⟩
    rcases List.mem_append.mp hv with hv | hv
    · exact sta_good _ _ _ (e3.trans (Ex.new hp3)) (g1 v hv)
    · exact sta_good _ _ _ (Ex.new hp3) (g2 v hv)
theorem ep_good {d : Da} {k : Nat} (h : Ev te σ H v) (hr : Rep K H v d) (hf : Fit k d) : EvP te σ H (Good K k) := fun H1 e Q q => h H1 e _ fun H2 e2 => q _ H2 e2 ⟨d, hr.ex (e.trans e2), hf⟩
theorem ep_goodT {vs : List V} {l : List Da} {k : Nat} (h : EvP te σ H (IsU vs)) (hr : Reps K H vs l) (hf : Fit k (.t l)) : EvP te σ H (Good K k) := fun H1 e Q q => h H1 e _ fun v H2 e2 ⟨p, hv, hp⟩ => q _ H2 e2 ⟨.t l, by rw [hv]; exact rep_t hp (hr.ex (e.trans e2)), hf⟩
end
/-! ### step by step, where a call changes the state -/
section
variable {σ : L2.St} {H : Hp} {ta tb : TE} {x y : V} {vs : List V} {sp : Sp} {E : XK} {Q : VK} {r : R2} {tl : TA}
theorem m_call (h : EvA tl σ H vs) (k : ∀ H', Ex H H' → sp vs H' Q E) : tCall sp [] E tl σ H Q := h H (Ex.refl _) _ fun H2 e => by
  show sp (vs ++ []) H2 Q E
  rw [List.append_nil]
  exact k H2 e
theorem m_callP {PA : List V → Hp → Prop} (h : EvAP tl σ H PA) (k : ∀ vs H', Ex H H' → PA vs H' → sp vs H' Q E) : tCall sp [] E tl σ H Q := h H (Ex.refl _) _ fun vs H2 e p => by
  show sp (vs ++ []) H2 Q E
  rw [List.append_nil]
  exact k vs H2 e p
theorem m_op (h : Ev ta σ H x) (k : ∀ H1, Ex H H1 → tb σ H1 fun y H2 => r x y H2 Q) : tOp r ta tb σ H Q := h H (Ex.refl _) _ k
theorem m_opP {P : V → Hp → Prop} (h : EvP ta σ H P) (k : ∀ x H1, Ex H H1 → P x H1 → tb σ H1 fun y H2 => r x y H2 Q) : tOp r ta tb σ H Q := h H (Ex.refl _) _ k
theorem m_and {t u : TT} {b : Bool} {R : Bool → Hp → Prop} (h : EvT t σ H b) (h0 : b = false → ∀ H1, Ex H H1 → R false H1) (h1 : b = true → ∀ H1, Ex H H1 → u σ H1 R) : tAnd t u σ H R := h H (Ex.refl _) _ fun H1 e => by
  cases b with
  | true => exact h1 rfl H1 e
  | false => exact h0 rfl H1 e
end
/-! ### _law_one_of -/
def spOne : Sp := fun vs H Q _ => ∃ (st l p : Addr) (ns : List Int) (xs : List V), vs = [.ref st, .ref p] ∧ H p = some (.lst xs) ∧ p ≠ st ∧ 0 < xs.length ∧ xs.length ≤ 1000 ∧ ns.length ≤ 1000 ∧ StOk st l ns H ∧
  ∀ (v : V) H', v ∈ xs → Exs st H H' → StOk st l ns H' → Q v H'
section
variable {P : Program} {w : World} {K : PySem.W.Frag} {mg : Str → Option Value} {base : Heap}
theorem sc_law_one_of : FnScope ["state", "items"] ["state", "items"] (defScope (topS 24)) := ⟨rfl, rfl, rfl, by decide +kernel, rfl, by decide +kernel, by decide +kernel⟩
theorem ok_law_one_of {f : Addr} {fd : FuncData} (F : FnP K "_law_one_of" "_law_one_of" (topS 24) f fd) (T : Bt mg) (h_law_draw : Has P w K mg base "_law_draw" ["state", "most"] 1 spDraw) : FnOk P w K mg base CX0 2 f fd ["state", "items"] spOne := by
  refine F.ok sc_law_one_of (fun vs H Q E h => ?_) (fun cdv A outer s H vs Q E hr h => ?_)
  · obtain ⟨st, l, p, ns, xs, rfl, _⟩ := h
    rfl
  · obtain ⟨st, l, p, ns, xs, rfl, hp, hne, h0, h1, hn, hS, k⟩ := h
    refine ⟨_, PSs.nox
      (pss_one (ps_ret (pe_ix (ix_listK K rfl) (pv 1) (pe_callH h_law_draw (hr.mono (by decide)) (by rfl) (pa_cons (pv 0) (pa_cons (pe_callB (call_lenK K rfl) (by rfl) T.m_len (by decide +kernel) (pa_cons (pv 1) pa_nil)) pa_nil))) (fun _ _ => rfl)))), ?_⟩
    refine m_op (ev_var rfl) fun H1 e1 => m_call (ea_cons (ev_var rfl) (ea_cons (ev_lenL (ev_var rfl) (e1 _ _ hp)) ea_nil)) fun H2 e2 => ?_
    have e12 := e1.trans e2
    refine ⟨st, l, ns, _, rfl, by omega, by omega, hn, hS.ex e12, fun r H3 r0 r1 x3 s3 => ?_⟩
    have hp3 := x3 _ _ hne (e12 _ _ hp)
    obtain ⟨j, rfl⟩ : ∃ j : Nat, r = (j : Int) := ⟨r.toNat, by omega⟩
    have hj : j < xs.length := by omega
    exact ⟨p, xs, _, _, rfl, rfl, sq_of hp3, atI_nat (List.getElem?_eq_getElem hj), k _ H3 (List.getElem_mem hj) ((Ex.s e12).trans x3) s3⟩
end
/-- one of a new list's good items -/
theorem m_one {K : PySem.W.Frag} {σ : L2.St} {H : Hp} {tl : TE} {st l : Addr} {ns : List Int} {k n : Nat} {Q : VK} (h0 : σ[0]? = some (some (.ref st))) (h : EvF tl σ H (GoodL K k n)) (hn : 0 < n) (hn2 : n ≤ 1000) (hl : ns.length ≤ 1000) (S : StOk st l ns H)
    (q : ∀ v H', Good K k v H' → Exs st H H' → StOk st l ns H' → Q v H') : tCall spOne [] E0 (tCons (tVar 0) (tCons tl tNil)) σ H Q := by
  refine ⟨_, h0, h H (Ex.refl _) _ fun v H1 e ⟨p, xs, hv, hp0, hp, hx, hg⟩ => ?_⟩
  subst hv
  have S1 := S.ex e
  obtain ⟨_, _, _, _, hst⟩ := id S
  obtain ⟨_, _, _, _, hst1⟩ := id S1
  refine ⟨st, l, p, ns, xs, rfl, hp, (fun z => by rw [z, hst] at hp0; cases hp0), by omega, by omega, hl, S1, fun v H' hv x' S' => q v H' ((hg v hv).exs hst1 x') ((Ex.s e).trans x') S'⟩
end K88

set_option maxHeartbeats 4000000
/-! sets of tuples of texts: few of them, in the table of the model -/
namespace K88
open PySem PySem.Spec PyProof.Rows L2
abbrev hT8 (P : Program) (w : World) (k : List PySem.Str) : Int := tupleKeyHash (PySem.strKind P w) k
abbrev IsT8 (P : Program) (w : World) (h : Heap) (k : List PySem.Str) (a : Addr) : Prop := IsTupleKey (PySem.strKind P w) h k a
abbrev Row8 : Type := Addr × List PySem.Str
section
variable {P : Program} {w : World} {A : Around} {E : Value → Shared → Prop} {s : Shared}
theorem strs8 {k : List PySem.Str} {vs : List Value} (h : ItemsAre (PySem.strKind P w) k vs) : ∀ v, v ∈ vs → ∃ x t, v = Value.str x t := by
  induction h with
  | nil => exact fun v hv => absurd hv (by simp)
  | @cons k0 v' ks vs h1 _ ih =>
    intro v hv
    rcases List.mem_cons.mp hv with rfl | hv
    · obtain ⟨t, e⟩ := Value.isStrOf_shape h1
      exact ⟨k0, t, e⟩
    · exact ih v hv
theorem ofClass8 (n : Nat) (x : PySem.Str) (t : Tok) : ofAClassStatement n (.str x t) = pure false := by cases n <;> rfl
theorem hashByV8 (n : Nat) (x : PySem.Str) (t : Tok) : hashByValue n (.str x t) = pure false := by cases n <;> rfl
theorem ofClassT8 {k : List PySem.Str} {b : Addr} {Q : Bool → Shared → Prop} (hk : IsT8 P w s.heap k b) (h : Q false s) : wpAny (model P w) A (ofAClassStatement 8 (.ref b)) Q E s := by
  have hT := hk.typeIs
  obtain ⟨o, its, n, ho, _, hd, hi⟩ := hk
  unfold ofAClassStatement
  refine wpAny_bind (wpAny_typeOf hT ?_)
  simp only [show (("tuple" : String) == "tuple") = true by decide, if_true, Bool.not_true, Bool.false_eq_true, if_false]
  try refine wpAny_bind (wpAny_pure ?_)
  try simp only [Bool.not_true, Bool.false_eq_true, if_false]
  show wpAny _ _ (seqItems? (.ref b) >>= _) _ _ s
  refine wpAny_bind (wpAny_seqItems ho hd ?_)
  dsimp only
  refine wpAny_bind (show wpAny _ _ (forIn its _ _) _ _ s from ?_)
  rw [← Array.forIn_toList]
  refine wpAny_forIn_list _ (fun l r s' => s' = s ∧ r.1 = none ∧ ∀ v, v ∈ l → ∃ x t, v = Value.str x t) _ ?_ ?_ _ _ ⟨rfl, rfl, strs8 hi⟩
  · rintro v l r s' ⟨rfl, hr, al⟩
    obtain ⟨x, t, rfl⟩ := al v List.mem_cons_self
    rw [ofClass8]
    refine wpAny_bind (wpAny_pure ?_)
    simp only [Bool.false_eq_true, if_false]
    exact wpAny_pure ⟨rfl, rfl, fun u hu => al u (List.mem_cons_of_mem _ hu)⟩
  · rintro ⟨r1, r2⟩ s' ⟨rfl, hr, _⟩
    obtain rfl : r1 = none := hr
    exact wpAny_pure h
theorem hashBy8 {k : List PySem.Str} {b : Addr} {Q : Bool → Shared → Prop} (hk : IsT8 P w s.heap k b) (h : ∀ c, Q c s) : wpAny (model P w) A (hashByValue 8 (.ref b)) Q E s := by
  have hT := hk.typeIs
  obtain ⟨o, its, n, ho, _, hd, hi⟩ := hk
  unfold hashByValue
  refine wpAny_bind (wpAny_specialOf hT F.slot_tuple_hash.lookup ?_)
  show wpAny _ _ (seqItems? (.ref b) >>= _) _ _ s
  refine wpAny_bind (wpAny_seqItems ho hd ?_)
  refine wpAny_bind (show wpAny _ _ (forIn its _ _) _ _ s from ?_)
  rw [← Array.forIn_toList]
  refine wpAny_forIn_list _ (fun l r s' => s' = s ∧ r.1 = none ∧ ∀ v, v ∈ l → ∃ x t, v = Value.str x t) _ ?_ ?_ _ _ ⟨rfl, rfl, strs8 hi⟩
  · rintro v l r s' ⟨rfl, hr, al⟩
    obtain ⟨x, t, rfl⟩ := al v List.mem_cons_self
    rw [hashByV8]
    refine wpAny_bind (wpAny_pure ?_)
    simp only [Bool.not_false, if_true]
    first
      | exact wpAny_pure (wpAny_pure (h _))
      | exact wpAny_pure (h _)
      | exact wpAny_bind (wpAny_pure (wpAny_pure (wpAny_pure (h _))))
      | exact wpAny_bind (wpAny_pure (wpAny_pure (h _)))
  · rintro ⟨r1, r2⟩ s' ⟨rfl, hr, _⟩
    obtain rfl : r1 = none := hr
    exact wpAny_pure (h _)
theorem unseen8 {k : List PySem.Str} {b : Addr} {Q : Bool → Shared → Prop} (hk : IsT8 P w s.heap k b) {ys : List Value} (hy : ∀ y, y ∈ ys → ∃ k' c, y = Value.ref c ∧ IsT8 P w s.heap k' c) (h : Q false s) :
    wpAny (model P w) A (searchCouldBeSeen (.ref b) ys) Q E s := by
  unfold searchCouldBeSeen
  refine wpAny_bind ?_
  refine wpAny_forIn_list _ (fun l r s' => s' = s ∧ r.1 = none ∧ ∀ y, y ∈ l → ∃ k' c, y = Value.ref c ∧ IsT8 P w s.heap k' c) _ ?_ ?_ _ _ ⟨rfl, rfl, hy⟩
  · rintro v l r s' ⟨rfl, hr, al⟩
    obtain ⟨k', c, rfl, hc⟩ := al v List.mem_cons_self
    have al' := fun u hu => al u (List.mem_cons_of_mem _ hu)
    dsimp only
    by_cases hv : (b == c || (carriedByValue (.ref b) && carriedByValue (.ref c))) = true
    · exact wp_if_pos hv (wpAny_pure ⟨rfl, rfl, al'⟩)
    · refine wp_if_neg hv (wpAny_bind (wpAny_eqIsQuiet_tuple hk ?_))
      simp only [Bool.not_true, Bool.false_eq_true, if_false]
      refine wpAny_bind (wpAny_eqIsQuiet_tuple hc ?_)
      simp only [Bool.not_true, Bool.false_eq_true, if_false]
      refine wpAny_bind (ofClassT8 hk ?_)
      simp only [Bool.false_eq_true, if_false]
      refine wpAny_bind (ofClassT8 hc ?_)
      simp only [Bool.false_eq_true, if_false]
      exact wpAny_pure ⟨rfl, rfl, al'⟩
  · rintro ⟨r1, r2⟩ s' ⟨rfl, hr, _⟩
    obtain rfl : r1 = none := hr
    exact wpAny_pure h
end
/-! ### the set at a: its rows in the table's order -/
def rows8 (P : Program) (w : World) (L : List Row8) : List (Int × Value) := L.map fun p => (hT8 P w p.2, Value.ref p.1)
theorem rows8_len {P : Program} {w : World} {L : List Row8} {es : Array (Int × Value)} (h : es.toList = rows8 P w L) : es.size = L.length := by
  rw [← Array.length_toList, h, rows8, List.length_map]
structure Lay8 (P : Program) (w : World) (L : List Row8) (es : Array (Int × Value)) (t : SetTable) : Prop where
  rows : es.toList = rows8 P w L
  tab : TabOk t (L.map fun p => hT8 P w p.2)
  nd : (L.map (·.2)).Nodup
  led : w.params.followText "set-order" = true ∨ t.led = true
  msk : t.mask = 7 ∨ t.mask = 31
  room : L.length * 5 < t.mask * 3
  few : L.length ≤ 16
structure Set8 (P : Program) (w : World) (h : Heap) (a : Addr) (L : List Row8) : Prop where
  ex : ∃ (o : Obj) (es : Array (Int × Value)) (ep : Nat) (t : SetTable), h.get? a = some o ∧ o.ExactSet ∧ o.data = .set es ep t ∧ Lay8 P w L es t
section
variable {P : Program} {w : World} {L : List Row8} {es : Array (Int × Value)} {t : SetTable}
theorem Lay8.fits (R : Lay8 P w L es t) : t.fits es.size = true := by
  have h1 := R.tab.sz
  have h2 := rows8_len R.rows
  have h3 := R.room
  rw [List.length_map] at h1
  unfold SetTable.fits SetTable.fill
  rw [R.tab.dm, Bool.and_eq_true, beq_iff_eq, decide_eq_true_eq]
  exact ⟨by omega, by show t.place.size + 0 ≤ t.mask; omega⟩
theorem Lay8.at_ (R : Lay8 P w L es t) {i : Nat} {p : Row8} (h : L[i]? = some p) : es[i]? = some (hT8 P w p.2, Value.ref p.1) := by
  rw [← Array.getElem?_toList, R.rows, rows8, List.getElem?_map, h]
  rfl
theorem Lay8.gw (R : Lay8 P w L es t) : ¬ t.gaveWay = true := by
  unfold SetTable.gaveWay
  rw [mask_odd R.tab.mok]
  decide
theorem tab_plain {hs : List Int} (T : TabOk t hs) (b : Bool) : TabOk { t with plain := b } hs := ⟨T.ris, T.dm, T.sz, T.mok, T.bd, T.reach⟩
end
/-- the c-th probe -/
abbrev pr8 (t : SetTable) (h : Int) (c : Nat) : SetTable.Probe := nth t.mask (runAt t.mask (SetTable.bits h % (t.mask + 1)) (SetTable.bits h)) c
theorem pr8_dummy (t : SetTable) (h : Int) (c : Nat) : (pr8 t h c).dummy = none := by
  have go : ∀ (n : Nat) (p : SetTable.Probe), p.dummy = none → (nth t.mask p n).dummy = none := fun n => by
    induction n with
    | zero => exact fun p h => h
    | succ n ih => exact fun p h => ih _ (by unfold adv; split <;> exact h)
  exact go c _ rfl
theorem pr8_add (t : SetTable) (h : Int) (c q : Nat) : nth t.mask (pr8 t h c) q = pr8 t h (c + q) := (nth_add t.mask c _ q).symm
section
variable {P : Program} {w : World} {A : Around} {E : Value → Shared → Prop} {s : Shared} {a : Addr} {o : Obj} {L : List Row8} {es : Array (Int × Value)} {ep : Nat} {t : SetTable}
/-- the search from the c-th probe on; K: the first free one -/
theorem find8 (ho : s.heap.get? a = some o) (hd : o.data = .set es ep t) (R : Lay8 P w L es t) (tu : ∀ p, p ∈ L → IsT8 P w s.heap p.2 p.1) {x : Addr} {k : List PySem.Str} (hx : IsT8 P w s.heap k x) (hu : A.units < cLine)
    {h : Int} (hh : h = hT8 P w k) {K : Nat} (hKf : K < 10 * SetTable.turns t.mask) (hK : (pr8 t h K).j ∉ t.place.toList) (hKb : ∀ c, c < K → (pr8 t h c).j ∈ t.place.toList) {Q : SetFound → Shared → Prop}
    (hin : k ∈ L.map (·.2) → Q (.there none) s) (hout : k ∉ L.map (·.2) → Q (.free (pr8 t h K).j false) s) :
    ∀ (f c : Nat) (stand : Option SetTable.Probe), stand.getD (t.probeStart h) = pr8 t h c → c ≤ K → K - c < f →
      (∀ (i : Nat) (p : Row8), L[i]? = some p → p.2 = k → ∃ c', c ≤ c' ∧ c' < K ∧ t.place.toList[i]? = some (pr8 t h c').j) →
      wpAny (model P w) A (setSearchFrom a (.ref x) h true f stand) Q E s
  | 0, c, stand, _, _, hf, _ => absurd hf (Nat.not_lt_zero _)
  | f + 1, c, stand, hst, hc, hf, hre => by
    have hA : ∀ (i : Nat) (p : Row8), L[i]? = some p → (es[i]?.map (·.1)).getD 0 = hT8 P w p.2 := fun i p hp => by rw [R.at_ hp]; rfl
    rw [setSearchFrom_succ]
    refine wpAny_bind (wpAny_setState_of ho hd R.fits ?_)
    dsimp only
    refine wp_if_neg R.gw ?_
    try refine wpAny_bind (wpAny_pure ?_)
    have probe_eq : ∀ m, SetTable.probe.go t (fun i => (es[i]?.map (·.1)).getD 0) h (10 * SetTable.turns t.mask) (pr8 t h c) = some m → t.probe (fun i => (es[i]?.map (·.1)).getD 0) h (stand.getD (t.probeStart h)) = some m := fun m e => by rw [hst]; exact e
    have missed : (∀ (k' i' : Nat), k' < K - c → t.place.toList[i']? = some (nth t.mask (pr8 t h c) k').j → (fun (i : Nat) => (es[i]?.map (·.1)).getD 0) i' ≠ h) → k ∉ L.map (·.2) := fun hno hm => by
      obtain ⟨p0, h0, hk0⟩ := List.mem_map.mp hm
      obtain ⟨i0, hi0, e0⟩ := List.getElem_of_mem h0
      have h00 : L[i0]? = some p0 := by rw [List.getElem?_eq_getElem hi0, e0]
      obtain ⟨c', a1, a2, a3⟩ := hre i0 p0 h00 hk0
      refine hno (c' - c) i0 (by omega) (by rw [pr8_add, show c + (c' - c) = c' by omega]; exact a3) ?_
      show (es[i0]?.map (·.1)).getD 0 = h
      rw [hA i0 p0 h00, hh, hk0]
    rcases go_spec t R.tab.ris R.tab.dm (fun i => (es[i]?.map (·.1)).getD 0) h (10 * SetTable.turns t.mask) (K - c) (pr8 t h c) (pr8_dummy t h c) (by omega)
      (fun q hq => by rw [pr8_add]; exact hKb (c + q) (by omega)) (by rw [pr8_add, show c + (K - c) = K by omega]; exact hK) with ⟨q, i, hq, hi, _, hno, hpr⟩ | ⟨hno, hpr⟩
    · rw [probe_eq _ hpr]
      dsimp only
      rw [pr8_add] at hi ⊢
      rw [pr8_add]
      have hil : i < L.length := by
        have h1 : i < t.place.toList.length := (List.getElem?_eq_some_iff.mp hi).1
        have h2 := R.tab.sz
        rw [List.length_map] at h2
        rw [Array.length_toList] at h1
        omega
      obtain ⟨p, hp⟩ : ∃ p, L[i]? = some p := ⟨_, List.getElem?_eq_getElem hil⟩
      have hm : p ∈ L := List.mem_of_getElem? hp
      have rest : wpAny (model P w) A (searchRest a (.ref x) h true f es t (pr8 t h (c + q)).j i (pr8 t h (c + (q + 1)))) Q E s := by
        unfold searchRest
        rw [R.at_ hp]
        dsimp only
        refine wpAny_bind (wpAny_holding (wpAny_eqBool_tuple hu (tu p hm) hx ?_))
        refine wpAny_bind (wpAny_setState_of ho hd R.fits ?_)
        dsimp only
        by_cases hkk : p.2 = k
        · refine wp_if_pos (by simp [hkk]) (wpAny_pure (hin (List.mem_map.mpr ⟨p, hm, hkk⟩)))
        · refine wp_if_neg (by simp [hkk]) ?_
          try refine wpAny_bind (wpAny_pure ?_)
          rw [sameMem]
          dsimp only
          have hsl : t.slot (pr8 t h (c + q)).j = .live i := slot_live R.tab.ris hi
          simp only [if_true, hsl, R.at_ hp]
          refine wpAny_bind (wpAny_isSame_ref_self (wpAny_bind (wpAny_pure ?_)))
          simp only [if_true]
          refine wp_if_neg (by simp [hkk]) ?_
          refine find8 ho hd R tu hx hu hh hKf hK hKb hin hout f (c + (q + 1)) _ rfl (by omega) (by omega) fun i0 p0 h0 hk0 => ?_
          obtain ⟨c', a1, a2, a3⟩ := hre i0 p0 h0 hk0
          refine ⟨c', ?_, a2, a3⟩
          have n1 : ¬ c' < c + q := fun z => hno (c' - c) i0 (by omega) (by rw [pr8_add, show c + (c' - c) = c' by omega]; exact a3) (by
            show (es[i0]?.map (·.1)).getD 0 = h
            rw [hA i0 p0 h0, hh, hk0])
          have n2 : c' ≠ c + q := fun z => by
            rw [z] at a3
            have s0 := slot_live R.tab.ris a3
            rw [hsl] at s0
            injection s0 with s0
            rw [← s0, hp] at h0
            exact hkk (by rw [Option.some.inj h0]; exact hk0)
          omega
      by_cases hl : t.led = true
      · refine wp_if_neg (by simp [hl]) ?_
        try refine wpAny_bind (wpAny_pure ?_)
        exact rest
      · refine wp_if_pos (by simp [hl]) (wpAny_bind (unseen8 hx (fun y hy => ?_) ?_))
        · obtain ⟨e, he, ee⟩ := List.mem_map.mp hy
          have he1 : e ∈ es ∧ e.1 = h := by simpa using he
          have he2 : e ∈ es.toList := by simpa using he1.1
          rw [R.rows] at he2
          obtain ⟨p2, hp2, e2⟩ := List.mem_map.mp he2
          exact ⟨p2.2, p2.1, by rw [← ee, ← e2], tu p2 hp2⟩
        · refine wp_if_neg (by decide) ?_
          try refine wpAny_bind (wpAny_pure ?_)
          exact rest
    · rw [probe_eq _ hpr, pr8_add, show c + (K - c) = K by omega]
      exact wpAny_pure (hout (missed hno))
theorem look8 (ho : s.heap.get? a = some o) (hd : o.data = .set es ep t) (R : Lay8 P w L es t) (tu : ∀ p, p ∈ L → IsT8 P w s.heap p.2 p.1) {x : Addr} {k : List PySem.Str} (hx : IsT8 P w s.heap k x) (hu : A.units < cLine) {Q : SetFound → Shared → Prop}
    (hin : k ∈ L.map (·.2) → Q (.there none) s)
    (hout : ∀ K, k ∉ L.map (·.2) → way t.mask (hT8 P w k) K ∉ t.place.toList → (∀ c, c < K → way t.mask (hT8 P w k) c ∈ t.place.toList) → Q (.free (way t.mask (hT8 P w k) K) false) s) :
    wpAny (model P w) A (setSearch a (.ref x) (hT8 P w k) true) Q E s := by
  have hroom := R.room
  obtain ⟨K, hKf, hK, hKb⟩ := R.tab.first (by rw [List.length_map]; omega) (hT8 P w k)
  have hb : K < 100000 := by
    unfold SetTable.turns at hKf
    rcases R.msk with e | e <;> omega
  unfold setSearch
  refine find8 ho hd R tu hx hu rfl hKf hK hKb hin (fun hn => hout K hn hK hKb) 100000 0 none rfl (Nat.zero_le _) (by omega) fun i p hp hk => ?_
  have hi : (L.map fun p => hT8 P w p.2)[i]? = some (hT8 P w k) := by rw [List.getElem?_map, hp, ← hk]; rfl
  have hil : i < t.place.toList.length := by
    have h1 : i < L.length := (List.getElem?_eq_some_iff.mp hp).1
    have h2 := R.tab.sz
    rw [List.length_map] at h2
    rw [Array.length_toList]
    omega
  have hj := List.getElem?_eq_getElem hil
  obtain ⟨c, hc, e⟩ := R.tab.before hK hi hj
  exact ⟨c, Nat.zero_le _, hc, by rw [hj, ← e]⟩
end
end K88

set_option maxHeartbeats 4000000
/-! adding to such a set -/
namespace K88
open PySem PySem.Spec PyProof.Rows L2
theorem range_fm {α : Type} (L : List α) : ∀ n, n ≤ L.length → (List.range n).filterMap (fun i => L[i]?) = L.take n
  | 0, _ => by simp
  | n + 1, h => by
    have hn : n < L.length := h
    rw [List.range_succ, List.filterMap_append, range_fm L n (Nat.le_of_lt h), List.take_succ, List.getElem?_eq_getElem hn]
    simp [List.filterMap_cons, hn]
section
variable {P : Program} {w : World} {A : Around} {E : Value → Shared → Prop} {s : Shared} {a : Addr} {o : Obj} {L : List Row8} {es : Array (Int × Value)} {ep : Nat} {t : SetTable}
theorem row8_at (hr : es.toList = rows8 P w L) (i : Nat) : es[i]? = (L[i]?).map fun p => (hT8 P w p.2, Value.ref p.1) := by
  rw [← Array.getElem?_toList, hr, rows8, List.getElem?_map]
theorem reorder8 {order : Array Nat} (hr : es.toList = rows8 P w L) (hp : order.toList.Perm (List.range L.length)) :
    ∃ L2 : List Row8, (order.filterMap (es[·]?)).toList = rows8 P w L2 ∧ L2.Perm L ∧ (L2.map fun p => hT8 P w p.2) = order.toList.map fun i => (es.map (·.1)).getD i 0 := by
  refine ⟨order.toList.filterMap fun i => L[i]?, ?_, ?_, ?_⟩
  · rw [Array.toList_filterMap, rows8, List.map_filterMap]
    congr 1
    funext i
    exact row8_at hr i
  · have h1 := hp.filterMap fun i => L[i]?
    rw [range_fm L L.length (Nat.le_refl _), List.take_length] at h1
    exact h1
  · have hb : ∀ i, i ∈ order.toList → i < L.length := fun i hi => List.mem_range.mp (hp.mem_iff.mp hi)
    generalize order.toList = l at hb
    induction l with
    | nil => rfl
    | cons i l ih =>
      have hi := hb i List.mem_cons_self
      rw [List.filterMap_cons_some (List.getElem?_eq_getElem hi), List.map_cons, List.map_cons, ih fun j hj => hb j (List.mem_cons_of_mem _ hj)]
      congr 1
      have e5 : (es.map (·.1))[i]? = some (hT8 P w (L[i]).2) := by rw [Array.getElem?_map, row8_at hr, List.getElem?_eq_getElem hi]; rfl
      simp [Array.getD_eq_getD_getElem?, e5]
/-- the table laid anew for the fifth -/
theorem relay8 (ho : s.heap.get? a = some o) (hex : o.ExactSet) (hd : o.data = .set es ep t) (hr : es.toList = rows8 P w L) (T : TabOk t (L.map fun p => hT8 P w p.2)) (hm : t.mask = 7) (hL : L.length = 5) (nd : (L.map (·.2)).Nodup)
    (ld : w.params.followText "set-order" = true ∨ t.led = true) {Q : Unit → Shared → Prop} (hQ : ∀ h' L', Heap.SameBut a s.heap h' → Set8 P w h' a L' → L'.Perm L → Q () { s with heap := h' }) : wpAny (model P w) A (setRelay a (SetTable.grown 5)) Q E s := by
  have hsl := rows8_len hr
  have hz := T.sz
  rw [List.length_map] at hz
  have hfits : t.fits es.size = true := by
    unfold SetTable.fits SetTable.fill
    rw [T.dm, Bool.and_eq_true, beq_iff_eq, decide_eq_true_eq]
    exact ⟨by omega, by show t.place.size + 0 ≤ t.mask; omega⟩
  obtain ⟨t', order, e, hp, T2, em, el, _, _⟩ := relaid_ok t (hs := es.map (·.1)) (wanted := SetTable.grown 5) (M := 31) (by rw [size_20]) (.inr (.inl rfl)) (by rw [Array.size_map, hsl]; omega)
  rw [Array.size_map, hsl] at hp
  obtain ⟨L2, r1, r2, r3⟩ := reorder8 hr hp
  rw [← r3] at T2
  have hs2 : (order.filterMap (es[·]?)).size = es.size := by rw [rows8_len r1, r2.length_eq, hsl]
  rw [setRelay_eq]
  refine wpAny_bind (wpAny_setState_of ho hd hfits ?_)
  dsimp only
  refine wp_if_neg (by rw [sizeLine_eq, size_20]; omega) ?_
  try refine wpAny_bind (wpAny_pure ?_)
  rw [e]
  dsimp only
  refine wpAny_bind (wp_if_neg (by rw [hs2]; simp) ?_)
  try refine wpAny_bind (wpAny_pure ?_)
  refine wpAny_pure ?_
  dsimp only
  refine wpAny_storeSet_of ho hd (hQ _ L2 (Heap.SameBut.update ..) ⟨_, _, _, t', store_at ho hd, ⟨hex.1, hex.2.1, hex.2.2⟩, rfl, r1, T2, (r2.map (·.2)).nodup_iff.mpr nd, by rw [el]; exact ld, .inr em, ?_, ?_⟩ r2) (by rw [hs2, hsl, sizeLine_eq]; omega)
  · rw [r2.length_eq, em]; omega
  · rw [r2.length_eq]; omega
theorem ins_perm {α : Type} (L : List α) (p : Nat) (x : α) : (L.take p ++ x :: L.drop p).Perm (x :: L) := by
  have h : (L.take p ++ x :: L.drop p).Perm (x :: (L.take p ++ L.drop p)) := List.perm_middle
  rwa [List.take_append_drop] at h
/-- adding, the hash known -/
theorem add8 (R : Set8 P w s.heap a L) (tu : ∀ p, p ∈ L → IsT8 P w s.heap p.2 p.1) {x : Addr} {k : List PySem.Str} (hx : IsT8 P w s.heap k x) (hu : A.units < cLine) (hfew : L.length + 1 ≤ 16) {Q : Bool → Shared → Prop}
    (hQ : ∀ b h' L', Heap.SameBut a s.heap h' → Set8 P w h' a L' → (k ∈ L.map (·.2) → L' = L) → (k ∉ L.map (·.2) → L'.Perm ((x, k) :: L)) → Q b { s with heap := h' }) :
    wpAny (model P w) A (setAddHashed a (.ref x) (hT8 P w k)) Q E s := by
  obtain ⟨o, es, ep, t, ho, hex, hd, Y⟩ := id R.ex
  have hsl := rows8_len Y.rows
  have hroom := Y.room
  unfold setAddHashed
  refine wpAny_holding ?_
  rw [show (100000 : Nat) = 99999 + 1 from rfl, setAddHashedIn_succ]
  refine wpAny_bind (wpAny_setState_of ho hd Y.fits ?_)
  dsimp only
  refine wp_if_neg (by simp [byScan, Value.scannable]) ?_
  try refine wpAny_bind (wpAny_pure ?_)
  refine wpAny_bind (look8 ho hd Y tu hx hu (fun hm => ?_) fun K hm hK hb => ?_)
  · exact wpAny_pure (hQ false s.heap L (Heap.SameBut.refl a s.heap) R (fun _ => rfl) fun z => absurd hm z)
  · dsimp only
    refine wpAny_bind (wpAny_setState_of ho hd Y.fits ?_)
    dsimp only
    obtain ⟨q1, q2, q3, q4, q5, q6, q7, q8, q9⟩ := Y.tab.put hK hb
    generalize hpt : t.put (way t.mask (hT8 P w k) K) = pt at q1 q3 q4 q5 q6 q7 q8 q9 ⊢
    obtain ⟨t1, p⟩ := pt
    dsimp only at q1 q3 q4 q5 q6 q7 q8 q9 ⊢
    subst q1
    generalize hpp : SetTable.below t.place (way t.mask (hT8 P w k) K) = p at q2 q3 ⊢
    have hin : (SetTable.insertAt es p (hT8 P w k, Value.ref x)).toList = rows8 P w (L.take p ++ (x, k) :: L.drop p) := by
      rw [SetTable.toList_insertAt, Y.rows, rows8, rows8, List.map_append, List.map_cons, List.map_take, List.map_drop]
    have pm := ins_perm L p (x, k)
    have hhs : (L.take p ++ (x, k) :: L.drop p).map (fun p => hT8 P w p.2) = (L.map fun p => hT8 P w p.2).take p ++ hT8 P w k :: (L.map fun p => hT8 P w p.2).drop p := by
      rw [List.map_append, List.map_cons, List.map_take, List.map_drop]
    rw [← hhs] at q3
    generalize SetTable.insertAt es p (hT8 P w k, Value.ref x) = es1 at hin ⊢
    generalize L.take p ++ (x, k) :: L.drop p = L1 at pm q3 hin
    have hlen : L1.length = L.length + 1 := pm.length_eq
    have hes : es1.size = L.length + 1 := by rw [rows8_len hin, hlen]
    have nd1 : (L1.map (·.2)).Nodup := (pm.map (·.2)).nodup_iff.mpr (by rw [List.map_cons]; exact List.nodup_cons.mpr ⟨hm, Y.nd⟩)
    have step : ∀ t2 : SetTable, TabOk t2 (L1.map fun p => hT8 P w p.2) → t2.mask = t.mask → t2.led = t.led → t2.fill = (L.map fun p => hT8 P w p.2).length + 1 →
        wpAny (model P w) A (storeSet a es1 t2 >>= fun _ => if (!false && t2.tooFull) = true then (do setRelay a (SetTable.grown (es.size + 1)); pure true) else pure true) Q E s := fun t2 T2 m2 l2 f2 => by
      refine wpAny_bind (wpAny_storeSet_of ho hd ?_ (by rw [hes, sizeLine_eq]; omega))
      have sb : Heap.SameBut a s.heap (s.heap.update a (Obj.putSet es1 t2)) := Heap.SameBut.update ..
      have ho1 := store_at (es' := es1) (t' := t2) ho hd
      generalize s.heap.update a (Obj.putSet es1 t2) = h1 at sb ho1 ⊢
      have ld2 : w.params.followText "set-order" = true ∨ t2.led = true := by rw [l2]; exact Y.led
      rw [List.length_map] at f2
      by_cases hf : t2.tooFull = true
      · have hfull := hf
        unfold SetTable.tooFull at hfull
        rw [decide_eq_true_eq, f2] at hfull
        have c4 : t.mask = 7 ∧ L.length = 4 := by
          rcases Y.msk with e | e
          · exact ⟨e, by omega⟩
          · exfalso; omega
        refine wp_if_pos (by simp [hf]) (wpAny_bind ?_)
        rw [hsl, c4.2]
        exact relay8 (s := { s with heap := h1 }) ho1 ⟨hex.1, hex.2.1, hex.2.2⟩ rfl hin T2 (by rw [m2]; exact c4.1) (by rw [hlen, c4.2]) nd1 ld2 fun h2 L2 sb2 R2 pm2 => wpAny_pure (hQ true h2 L2 (sb.trans sb2) R2 (fun z => absurd z hm) fun _ => pm2.trans pm)
      · refine wp_if_neg (by simp [hf]) (wpAny_pure (hQ true h1 L1 sb ⟨_, es1, _, t2, ho1, ⟨hex.1, hex.2.1, hex.2.2⟩, rfl, hin, T2, nd1, ld2, by rw [m2]; exact Y.msk, ?_, by omega⟩ (fun z => absurd z hm) fun _ => pm))
        unfold SetTable.tooFull at hf
        rw [decide_eq_true_eq, f2] at hf
        omega
    by_cases hp1 : t1.plain = true
    · refine wp_if_pos hp1 (wpAny_bind (hashBy8 hx fun c => ?_))
      cases c with
      | true => exact step t1 q3 q4 q5 q9
      | false => exact step { t1 with plain := false } (tab_plain q3 false) q4 q5 q9
    · refine wp_if_neg hp1 (wpAny_bind (wpAny_pure ?_))
      exact step t1 q3 q4 q5 q9
end
end K88

set_option maxHeartbeats 4000000
/-! such a set as a tracked thing; {e for x in ..}, e a tuple of texts -/
namespace K88
open PySem PySem.Spec PyProof.Rows L2
def Set8O (P : Program) (w : World) (a : Addr) (L : List Row8) : HO := .ext fun h => Set8 P w h a L
/-- the rows' tuples stand in the heap -/
def Rows8 (H : Hp) (L : List Row8) : Prop := ∀ p, p ∈ L → H p.1 = some (.tup (p.2.map V.str))
/-- k at x added to L -/
def Put8 (x : Addr) (k : List PySem.Str) (L L' : List Row8) : Prop := (k ∈ L.map (·.2) → L' = L) ∧ (k ∉ L.map (·.2) → L'.Perm ((x, k) :: L))
theorem set8_ok {P : Program} {w : World} {H : Hp} {h : Heap} {a : Addr} {L : List Row8} (R : Set8 P w h a L) : ObjOk P w H h a (Set8O P w a L) := by
  obtain ⟨o, es, ep, t, ho, r⟩ := id R.ex
  exact ⟨R, ⟨o, ho⟩, fun h1 h2 p k => by
    obtain ⟨o', es', ep', t', ho', r'⟩ := Set8.ex p
    exact ⟨o', es', ep', t', k o' ho', r'⟩⟩
theorem set8_new {h : Heap} {P : Program} {w : World} {a : Addr} (ho : h.get? a = some { cls := .type "set", dict := none, data := .set #[] 0 (.fresh 0 0 (!w.params.followText "set-order")) }) : Set8 P w h a [] :=
  ⟨_, #[], 0, _, ho, ⟨rfl, rfl, rfl⟩, rfl, rfl, ⟨List.Pairwise.nil, rfl, rfl, .inl rfl, fun x hx => (by cases hx), fun i h j hi => (by simp at hi)⟩, List.nodup_nil, by
    show _ ∨ (!w.params.followText "set-order") = true
    cases w.params.followText "set-order"
    · exact .inr rfl
    · exact .inl rfl, .inl rfl, (by show 0 * 5 < 7 * 3; decide), (by decide)⟩
theorem items8 {P : Program} {w : World} : ∀ {k : List PySem.Str} {us : List Value}, Vals (k.map V.str) us → ItemsAre (PySem.strKind P w) k us
  | [], _, .nil => .nil
  | x :: k, _, .cons r t => by
    obtain ⟨tk, rfl⟩ := r
    exact .cons (show (PySem.strKind P w).is x (.str x tk) = true by simp [PySem.strKind, Value.isStrOf]) (items8 t)
section
variable {X : Cx} {pins : List (Addr × Obj)} {σ : L2.St} {H : Hp} {s : Shared}
theorem isT8_of (I : Inv X pins σ H s) {b : Addr} {k : List PySem.Str} (h : H b = some (.tup (k.map V.str))) : IsT8 X.prog X.w s.heap k b := by
  obtain ⟨its, r, ⟨o, ho, hc, n, hd⟩, _⟩ := I.tuple (Evl.st_of h)
  exact ⟨o, its.toArray, n, ho, hc, hd, by simpa using items8 r⟩
theorem put8_ok {E : Value → Shared → Prop} {D x : Addr} {k : List PySem.Str} {L : List Row8} {Q : Value → Shared → Prop} (hu : X.A.units + 64 < cLine) (I : Inv X pins σ H s) (hx : H x = some (.tup (k.map V.str))) (hD : H D = some (Set8O X.prog X.w D L)) (hL : Rows8 H L) (few : L.length + 1 ≤ 16)
    (h : ∀ L' s', Put8 x k L L' → Inv X pins σ (upd H D (Set8O X.prog X.w D L')) s' → Q .none s') : wpAny (model X.prog X.w) X.A (call (.builtin "set.add") [.ref D, .ref x]) Q E s := by
  have R : Set8 X.prog X.w s.heap D L := (I.hok D _ hD).1
  obtain ⟨o, es, ep, t, ho, hex, hd, Y⟩ := id R.ex
  have hT : s.TypeIs (.ref D) "set" := ⟨o, ho, hex.1⟩
  refine wpAny_call_entry F.slot_set_add hT F.entry_set_add ?_ (F.args_set_add_2 _ _)
  unfold Builtin.«set.add» Builtin.Frozenset.oneOther
  simp only [List.isEmpty_nil, bind_assoc]
  unfold Builtin.Frozenset.addrOf setAdd
  refine wpAny_bind (wpAny_pure ?_)
  try dsimp only
  refine wpAny_bind (wpAny_pure ?_)
  try dsimp only
  refine wpAny_bind (wpAny_holding ?_)
  refine wpAny_bind (wpAny_pyHash_tuple (by show X.A.units + 1 < cLine; omega) (isT8_of I hx) ?_)
  refine add8 (s := { s with toks := s.toks + (k.length + 1) }) R (fun p hp => isT8_of I (hL p hp)) (isT8_of I hx) (by show X.A.units + 1 < cLine; omega) few fun b h' L' sb R' p1 p2 => ?_
  refine wpAny_pure ⟨_, rfl, h L' _ ⟨p1, p2⟩ (I.write (e := D) (t' := s.toks + (k.length + 1)) (by rw [hD]; trivial) (.inl rfl) (fun b u hb hu => (sb.2 b hb).trans hu) ?_ (set8_ok R'))⟩
  obtain ⟨o', _, _, _, ho', _⟩ := id R'.ex
  exact ⟨o', ho'⟩
theorem wpAny_forIn_nil8 {M : Model} {A : Around} {E : Value → Shared → Prop} {s : Shared} {f : Expr → Bool → Sem (ForInStep Bool)} {Q : Bool → Shared → Prop} (h : Q true s) : wpAny M A (forIn ([] : List Expr) true f) Q E s := by
  rw [List.forIn_nil]
  exact wpAny_pure h
/-- the reading: D the new set -/
def tSc8 (P : Program) (w : World) (wi : TI) (g : TG) (te : TE) (vs : List Nat) : TE := fun σ H Q => wi σ H fun J H1 => ∀ D, H1 D = none → ∃ W : Nat → Nat → Hp → Prop, (∃ m, W 0 m (upd H1 D (Set8O P w D []))) ∧ ∀ i m H, W i m H →
  (J.stop i H ∧ Q (.ref D) H) ∨ (J.go i H ∧ ∃ Nx : Hp → Prop, (∀ H', Nx H' → ∃ m', m' < m ∧ W (i + 1) m' H') ∧ ∀ x H', J.yld i H x H' → g x (wipe σ vs) H' fun σ2 H2 => wipe σ2 vs = wipe σ vs ∧
    te σ2 H2 fun y H4 => ∃ (x : Addr) (k : List PySem.Str) (L : List Row8), y = .ref x ∧ H4 x = some (.tup (k.map V.str)) ∧ H4 D = some (Set8O P w D L) ∧ Rows8 H4 L ∧ L.length + 1 ≤ 16 ∧ ∀ L', Put8 x k L L' → Nx (upd H4 D (Set8O P w D L')))
theorem sc8_core {Q : VK} {elt tg iter : Expr} {scope : Scope} {own : List (PySem.Str × Nat)} {pos pos' : Pos} {wi : TI} {g : TG} {te : TE} {use : Option (Value → Sem Unit)} {Qf : Value → Shared → Prop}
    (hc : X.calm = true) (hu : X.A.units + 64 < cLine) (hN : X.N.Nodup) (I : Inv X pins σ H s) (hi : PI X tg iter wi) (ok : BlkOk X.N X.env.scope scope own)
    (hg : ∀ (s : Shared) (H : Hp) (C : Addr) (cl : List (PySem.Str × Addr)) (fp : List Addr), PG (X.blk s H scope (compEnvC scope cl C X.env) fp) tg g)
    (he : ∀ (s : Shared) (H : Hp) (C : Addr) (cl : List (PySem.Str × Addr)) (fp : List Addr), PE (X.blk s H scope (compEnvC scope cl C X.env) fp) elt te) (hs : ∀ x, foldedSetIterable iter X.env x = pure x)
    (h : tSc8 X.prog X.w wi g te (own.map (·.2)) σ H Q)
    (hRR : ∀ D C s' m H', Inv X pins σ H' s' → Q (.ref D) H' → s'.heap.Ns C m → FpOk X pins H' C → compPost (model X.prog X.w) X.A X.xe use Qf (.ref D) C (.ok .next) s') :
    wpAny (model X.prog X.w) X.A (comprehension (.SetComp elt [⟨tg, iter, [], 0⟩] scope pos) scope X.env pos' (newSet (.type "set")) false (eval iter X.env) use) Qf X.xe s := by
  refine wpAny_comprehension_free (use := use) rfl hs (closure_ok fun y hy e => ?_) ok.kind (fun y hy e => by rw [ok.uniq y hy, e]) (thn (hi.run pins s σ H _ I h) fun xv s1 hx => thn hx fun itv s2 h2 => ?_)
  · rcases ok.free y hy e with k | k
    · exact I.ok.has _ (.inl k)
    · exact I.ok.has _ (.inr k)
  obtain ⟨it, fp, tn, J, H2, rfl, I2, T, st2, f2, q⟩ := h2
  refine PpSet.newSet_ok (newEnv_comp ?_)
  have hDn : H2 s2.heap.objs.size = none := I2.hok.fresh (Nat.le_refl _)
  obtain ⟨W, ⟨m0, w0⟩, turn⟩ := q _ hDn
  generalize hD : s2.heap.objs.size = D at hDn w0 turn ⊢
  generalize hO : ({ cls := .type "set", dict := none, data := .set #[] 0 (.fresh 0 0 (!X.w.params.followText "set-order")) } : Obj) = O
  generalize hH3 : upd H2 D (Set8O X.prog X.w D []) = H3 at w0
  generalize hs3 : ({ s2 with heap := s2.heap.push O } : Shared) = s3
  have h3 : s3.heap = s2.heap.push O := by rw [← hs3]
  have kp3 : ∀ b o, s2.heap.get? b = some o → s3.heap.get? b = some o := fun b o e => by rw [h3]; exact Heap.get?_push_of_some _ e
  have new3 : Set8 X.prog X.w s3.heap D [] := set8_new (by rw [h3, ← hD, hO]; exact Heap.get?_push_size _ (by rw [← hO]; rfl))
  have I3 : Inv X pins σ H3 s3 := by
    rw [← hs3, ← hH3]
    refine I2.laid (t' := s2.toks) (fun b o e => Heap.get?_push_of_some _ e) (Nat.le_of_eq hD) (set8_ok ?_)
    rw [← h3]
    exact new3
  have low : ∀ b ∈ fp, b < s2.heap.objs.size := fun b hb => by
    obtain ⟨o, e, _⟩ := T.obj _ _ st2 b hb
    exact Heap.lt_size e
  have f3 : ∀ b ∈ fp, FpOk X pins H3 b ∧ b < s3.heap.objs.size := fun b hb => by
    have hlt := low b hb
    refine ⟨⟨?_, (f2 b hb).2⟩, by rw [h3, Heap.size_push]; exact Nat.lt_succ_of_lt hlt⟩
    rw [← hH3, upd_ne (by rw [← hD]; exact Nat.ne_of_lt hlt)]
    exact (f2 b hb).1
  have st3 : tn 0 s3.heap := T.keep _ _ _ st2 fun b _ o e => kp3 b o e
  have I4 := block_start I3 ok hN f3
  have nfp : ∀ b ∈ fp, H3 b = none := fun b hb => (f3 b hb).1.1
  show codeAny _ _ (.compStart (.SetComp elt [⟨tg, iter, [], 0⟩] scope pos) 0 (.ref it) (.ref D) (compEnvC scope (cellsFrom (s3.heap.objs.size + 1) scope.names (cloFrom X.env.cells scope.names [])) s3.heap.objs.size X.env)) (compPost (model X.prog X.w) X.A X.xe use Qf (.ref D) s3.heap.objs.size) { s3 with heap := pushCells (s3.heap.push { cls := .type "dict", data := .dict #[] }) scope.names }
  have pg := hg s3 H3 s3.heap.objs.size (cellsFrom (s3.heap.objs.size + 1) scope.names (cloFrom X.env.cells scope.names [])) fp
  have pe := he s3 H3 s3.heap.objs.size (cellsFrom (s3.heap.objs.size + 1) scope.names (cloFrom X.env.cells scope.names [])) fp
  generalize hce : compEnvC scope (cellsFrom (s3.heap.objs.size + 1) scope.names (cloFrom X.env.cells scope.names [])) s3.heap.objs.size X.env = ce at I4 pg pe ⊢
  have cL : ce.locals = s3.heap.objs.size := by subst hce; rfl
  generalize hs4 : ({ s3 with heap := pushCells (s3.heap.push { cls := .type "dict", data := .dict #[] }) scope.names } : Shared) = s4 at I4 ⊢
  have st4 : tn 0 s4.heap := T.keep _ _ _ st3 fun b _ o e => by rw [← hs4]; exact pushCells_keeps _ _ _ _ (Heap.get?_push_of_some _ e)
  have stat : ∀ {σ' : L2.St} {H' : Hp} {s' : Shared}, Inv (X.blk s3 H3 scope ce fp) [] σ' H' s' → (∀ b ∈ fp, H' b = none) → ∀ b ∈ fp, FpOk (X.blk s3 H3 scope ce fp) [] H' b := fun {σ' H' s'} I' hn b hb =>
    ⟨hn b hb, (I'.ok.exf b hb).1, I'.ok.exfs b hb, .inl hb, fun x c e => (I'.ok.exf b hb).2 x c e, fun p hp => absurd (show p ∈ ([] : List (Addr × Obj)) ++ [] from hp) (by simp)⟩
  have loop : codeAny (model X.prog X.w) X.A (.compLoop (.SetComp elt [⟨tg, iter, [], 0⟩] scope pos) 0 (.ref it) (.ref D) ce) (compPost (model X.prog X.w) X.A X.xe use Qf (.ref D) s3.heap.objs.size) s4 := by
    refine PpSet.compLoopS_any (fun n s' => ∃ i H', Inv (X.blk s3 H3 scope ce fp) [] (wipe σ (own.map (·.2))) H' s' ∧ tn i s'.heap ∧ (∀ b ∈ fp, H' b = none) ∧ W i n H') ?_ m0 ⟨0, H3, I4, st4, nfp, w0⟩
    rintro n s5 ⟨i, H5, I5, st5, n5, w5⟩
    rcases turn i n H5 w5 with ⟨stop, qq⟩ | ⟨go, Nx, hNx, step⟩
    · refine thnF (T.done (X.blk s3 H3 scope ce fp) rfl rfl rfl hc i [] s5 _ H5 (fun _ _ => False) I5 (stat I5 n5) st5 stop) fun r s6 ⟨hr, I6⟩ => ?_
      subst hr
      have I7 : Inv X pins σ H5 s6 := I3.call' (ch := fp) I6.os I6.base I6.hok I6.bare fun b hb => ⟨(f3 b hb).1.2.2.2.1, (f3 b hb).1.2.1, (f3 b hb).1.2.2.2.2.1, (f3 b hb).1.2.2.2.2.2⟩
      have nC : H5 s3.heap.objs.size = none := by rw [← cL]; exact I6.free
      obtain ⟨m, hn, _⟩ := I6.loc
      have hn2 : s6.heap.Ns ce.locals m := hn
      rw [cL] at hn2
      exact hRR D s3.heap.objs.size s6 m H5 I7 qq hn2 (I3.fpOk (Nat.le_refl _) nC)
    · refine thnF (T.item (X.blk s3 H3 scope ce fp) rfl rfl rfl hc i [] s5 _ H5 (fun _ _ => False) I5 (stat I5 n5) st5 go) fun r s6 ⟨u, hr, h6⟩ => ?_
      subst hr
      refine thnF h6 fun _ s7 ⟨x, H7, I7, r7, y7, st7, n7⟩ => ?_
      refine thnF (pg.run _ s7 _ H7 x u _ (I7.pinned (stat I7 n7) (T.obj _ _ st7)) r7 (step x H7 y7)) fun _ s8 ⟨σ8, H8, I8, hw8, q8⟩ => ?_
      refine wpAny_forIn_nil8 ?_
      refine thnF (pe.run _ s8 σ8 H8 _ I8 q8) fun z s10 ⟨yv, H10, I10, r10, x1, k1, L1, ey, hx1, hD10, hL10, hf10, nx⟩ => ?_
      subst ey
      cases (show z = Value.ref x1 from r10)
      refine put8_ok (X := X.blk s3 H3 scope ce fp) hu I10 hx1 hD10 hL10 hf10 fun L' s11 pp I' => ?_
      obtain ⟨m', hm, w'⟩ := hNx _ (nx L' pp)
      have pin' : ∀ b ∈ fp, ∀ o, s7.heap.get? b = some o → s11.heap.get? b = some o ∧ (upd H10 D (Set8O X.prog X.w D L')) b = none := fun b hb o e =>
        let z := I'.pin (b, o) (List.mem_append_right _ (List.mem_append_right _ (mem_pinsAt hb e)))
        ⟨z.1, z.2.1⟩
      have hl : (wipe σ (own.map (·.2))).length = σ8.length := by rw [← hw8, wipe_length]
      refine ⟨m', hm, i + 1, _, (I'.unpinned (pins := [])).weak hl (fun j v e => ?_), T.keep _ _ _ st7 fun b hb o e => (pin' b hb o e).1, fun b hb => ?_, w'⟩
      · rw [← hw8] at e
        exact (wipe_some e).1
      · obtain ⟨o, e, _⟩ := T.obj _ _ st7 b hb
        exact (pin' b hb o e).2
  exact PpSet.codeAny_compStart_set loop (T.self X.A 0 _ _ _ st4 loop)
theorem pe_sc8 {elt tg iter : Expr} {scope : Scope} {own : List (PySem.Str × Nat)} {pos : Pos} {wi : TI} {g : TG} {te : TE} (hc : X.calm = true) (hu : X.A.units + 64 < cLine) (hN : X.N.Nodup) (hi : PI X tg iter wi) (ok : BlkOk X.N X.env.scope scope own)
    (hg : ∀ (s : Shared) (H : Hp) (C : Addr) (cl : List (PySem.Str × Addr)) (fp : List Addr), PG (X.blk s H scope (compEnvC scope cl C X.env) fp) tg g)
    (he : ∀ (s : Shared) (H : Hp) (C : Addr) (cl : List (PySem.Str × Addr)) (fp : List Addr), PE (X.blk s H scope (compEnvC scope cl C X.env) fp) elt te) (hs : ∀ x, foldedSetIterable iter X.env x = pure x := by intro _; rfl) :
    PE X (.SetComp elt [⟨tg, iter, [], 0⟩] scope pos) (tSc8 X.prog X.w wi g te (own.map (·.2))) := by
  refine ⟨fun pins s σ H Q I h => ?_⟩
  rw [PpSet.eval_SetComp]
  refine sc8_core hc hu hN I hi ok hg he hs h fun D C s' m H' I' q hn f => ⟨m, hn, fun h'' sb => ?_⟩
  obtain ⟨f0, f1, f2, f3, f4, f5⟩ := f
  exact ⟨.ref D, H', I'.turned (t' := s'.toks) (fun b o hb e => (sb.2 b hb).trans e) f0 f1 f3 f4 f5, rfl, q⟩
end
end K88

set_option maxHeartbeats 4000000
/-! sorted of tuples of texts, by their texts -/
namespace K88
open PySem PySem.Spec PyProof.Rows L2
/-- the order of texts -/
def ltS (a b : PySem.Str) : Bool := decide (a.cps.toList < b.cps.toList)
theorem ltS_irrefl (a : PySem.Str) : ltS a a = false := decide_eq_false (List.lt_irrefl _)
theorem ltS_trans {a b c : PySem.Str} (h : ltS a b = true) (h' : ltS b c = true) : ltS a c = true := decide_eq_true (List.lt_trans (of_decide_eq_true h) (of_decide_eq_true h'))
theorem str_ext8 {a b : PySem.Str} (h : a.cps.toList = b.cps.toList) : a = b := by
  cases a with
  | mk x =>
    cases b with
    | mk y =>
      have : x = y := Array.toList_inj.mp h
      rw [this]
theorem ltS_tri {a b : PySem.Str} (h : ltS a b = false) (h' : ltS b a = false) : a = b := str_ext8 (List.le_antisymm (List.not_lt.mp (of_decide_eq_false h')) (List.not_lt.mp (of_decide_eq_false h)))
theorem ltS_asym {a b : PySem.Str} (h : ltS a b = true) : ltS b a = false := by
  cases e : ltS b a with
  | false => rfl
  | true =>
    have := ltS_trans h e
    rw [ltS_irrefl] at this
    cases this
/-- the order of tuples of texts -/
def lex8 : List PySem.Str → List PySem.Str → Bool
  | _, [] => false
  | [], _ :: _ => true
  | a :: x, b :: y => if a = b then lex8 x y else ltS a b
theorem lex8_irrefl : ∀ x, lex8 x x = false
  | [] => rfl
  | a :: x => by rw [lex8, if_pos rfl]; exact lex8_irrefl x
theorem lex8_tri : ∀ {x y}, lex8 x y = false → lex8 y x = false → x = y
  | [], [], _, _ => rfl
  | [], b :: y, h, _ => by rw [lex8] at h; cases h
  | a :: x, [], _, h => by rw [lex8] at h; cases h
  | a :: x, b :: y, h, h' => by
    rw [lex8] at h h'
    by_cases e : a = b
    · rw [if_pos e] at h
      rw [if_pos e.symm] at h'
      rw [e, lex8_tri h h']
    · rw [if_neg e] at h
      rw [if_neg (fun z => e z.symm)] at h'
      exact absurd (ltS_tri h h') e
theorem lex8_trans : ∀ {x y z}, lex8 x y = true → lex8 y z = true → lex8 x z = true
  | _, _, [], _, h => by rw [lex8] at h; cases h
  | _, [], _ :: _, h, _ => by rw [lex8] at h; cases h
  | [], _ :: _, _ :: _, _, _ => rfl
  | a :: x, b :: y, c :: z, h, h' => by
    rw [lex8] at h h' ⊢
    by_cases e : a = b
    · rw [if_pos e] at h
      subst e
      by_cases e2 : a = c
      · rw [if_pos e2] at h' ⊢
        exact lex8_trans h h'
      · rw [if_neg e2] at h' ⊢
        exact h'
    · rw [if_neg e] at h
      by_cases e2 : b = c
      · subst e2
        rw [if_neg e]
        exact h
      · rw [if_neg e2] at h'
        by_cases e3 : a = c
        · subst e3
          rw [ltS_asym h] at h'
          cases h'
        · rw [if_neg e3]
          exact ltS_trans h h'
theorem lex8_asym {x y} (h : lex8 x y = true) : lex8 y x = false := by
  cases e : lex8 y x with
  | false => rfl
  | true =>
    have := lex8_trans h e
    rw [lex8_irrefl] at this
    cases this
theorem swo8 (k : Value → List PySem.Str) : SrtO.Swo fun v u => lex8 (k v) (k u) := by
  refine ⟨fun x y h => lex8_asym h, fun x y z h1 h2 => ?_⟩
  show lex8 (k z) (k x) = false
  have h1' : lex8 (k y) (k x) = false := h1
  have h2' : lex8 (k z) (k y) = false := h2
  cases e : lex8 (k z) (k x) with
  | false => rfl
  | true =>
    cases e2 : lex8 (k y) (k z) with
    | true => rw [lex8_trans e2 e] at h1'; cases h1'
    | false => rw [← lex8_tri e2 h2', h1'] at e; cases e
section
variable {prog : Program} {w : World} {A : Around} {E : Value → Shared → Prop} {s : Shared}
theorem one8 (c : Bool) {p q : PySem.Str} {t u : Tok} {Q : Bool → Shared → Prop} (h : Q (ltS p q) s) : wpAny (model prog w) A (oneLt' c (.str p t) (.str q u)) Q E s := by
  cases c with
  | true => exact oneLt_str h
  | false => exact PySem.W.kat_one _ _ (PyProof.Rows.lt_str (Q := PySem.W.BoolBack Q) h)
theorem kat8 {b fin : Bool} {Q : Bool → Shared → Prop} : ∀ {x y : List PySem.Str} {xs ys : List Value} (i : Nat), ItemsAre (PySem.strKind prog w) x xs → ItemsAre (PySem.strKind prog w) y ys → fin = decide (x.length < y.length) → Q (lex8 x y) s → PySem.W.KatLex prog w A b fin Q (xs.zip ys) i s
  | [], [], _, _, i, .nil, .nil, hf, h => by
    refine PySem.W.kat_nil ?_
    rw [hf]
    exact h
  | [], b' :: y, _, _, i, .nil, .cons _ _, hf, h => by
    refine PySem.W.kat_nil ?_
    rw [hf, show decide (([] : List PySem.Str).length < (b' :: y).length) = true from decide_eq_true (by simp)]
    exact h
  | a :: x, [], _, _, i, .cons _ _, .nil, hf, h => by
    refine PySem.W.kat_nil ?_
    rw [hf, show decide ((a :: x).length < ([] : List PySem.Str).length) = false from decide_eq_false (by simp)]
    exact h
  | a :: x, c :: y, _, _, i, .cons h1 t1, .cons h2 t2, hf, h => by
    obtain ⟨t, rfl⟩ := Value.isStrOf_shape h1
    obtain ⟨u, rfl⟩ := Value.isStrOf_shape h2
    refine PySem.W.kat_cons ((PySem.strKind prog w).eqBool (a := a) (b := c) h1 h2 ?_)
    refine PySem.W.kat_go (fun e => ?_) (fun e => ?_)
    · have ee := of_decide_eq_true e
      refine PySem.W.kat_yes (kat8 (i + 1) t1 t2 (by rw [hf]; simp) ?_)
      rw [lex8, if_pos ee] at h
      exact h
    · have ee := of_decide_eq_false e
      refine PySem.W.kat_no (one8 _ ?_)
      rw [lex8, if_neg ee] at h
      exact h
theorem firsts8 {h : Heap} {k : Value → List PySem.Str} : ∀ vs : List Value, (∀ v, v ∈ vs → ∃ a, v = .ref a ∧ IsT8 prog w h (k v) a ∧ k v ≠ []) → ∃ fs, PySem.W.KatTups h vs fs ∧ fs.length = vs.length ∧ ∀ f, f ∈ fs → ∃ x t, f = Value.str x t
  | [], _ => ⟨[], PySem.W.KatTups.nil, rfl, fun f hf => absurd hf (by simp)⟩
  | v :: vs, H => by
    obtain ⟨fs, t, hl, hs⟩ := firsts8 vs fun u hu => H u (List.mem_cons_of_mem _ hu)
    obtain ⟨a, e, ⟨o, its, n, ho, hc, hd, hi⟩, hne⟩ := H v List.mem_cons_self
    cases hk : k v with
    | nil => exact absurd hk hne
    | cons x r =>
      rw [hk] at hi
      cases hit : its.toList with
      | nil => rw [hit] at hi; cases hi
      | cons y ys =>
        rw [hit] at hi
        obtain ⟨u, tk, hy⟩ := strs8 hi y List.mem_cons_self
        refine ⟨y :: fs, ?_, by rw [List.length_cons, List.length_cons, hl], fun f hf => ?_⟩
        · rw [e]
          exact PySem.W.KatTups.cons ho hc hd (by rw [← Array.getElem?_toList, hit]; rfl) t
        · rcases List.mem_cons.mp hf with rfl | hf
          · exact ⟨u, tk, hy⟩
          · exact hs f hf
theorem cmp8 {vs : List Value} {k : Value → List PySem.Str} (hp : ∀ v, v ∈ vs → ∃ a, v = .ref a ∧ IsT8 prog w s.heap (k v) a ∧ k v ≠ []) : SrtO.Cmp prog w A s (tuples' true) (fun p => p.1 ∈ vs) (SrtO.lt2 fun v u => lex8 (k v) (k u)) := by
  intro p q hm hm'
  obtain ⟨a, e, ⟨o, its, n, ho, hc, hd, hi⟩, _⟩ := hp _ hm
  obtain ⟨a', e', ⟨o', its', n', ho', hc', hd', hi'⟩, _⟩ := hp _ hm'
  show wpAny (model prog w) A (keyLt' (tuples' true) p.1 q.1) (fun r s' => s' = s ∧ r = lex8 (k p.1) (k q.1)) (fun _ _ => False) s
  generalize k p.1 = x at hi ⊢
  generalize k q.1 = y at hi' ⊢
  rw [e, e']
  refine PySem.W.kat_lt ho hd ho' hd' (kat8 0 hi hi' ?_ ⟨rfl, rfl⟩)
  rw [hi.length, hi'.length, Array.length_toList, Array.length_toList]
theorem sortable8 {a : Addr} {vs : List Value} {k : Value → List PySem.Str} (h0 : 0 < vs.length) (hp : ∀ v, v ∈ vs → ∃ b, v = .ref b ∧ IsT8 prog w s.heap (k v) b ∧ k v ≠ []) (ha : ∀ o, s.heap.get? a = some o → o.cls ≠ .type "tuple") :
    SrtO.SortableO prog w A s a vs fun v u => lex8 (k v) (k u) := by
  intro h' keep
  have hp' : ∀ v, v ∈ vs → ∃ b, v = .ref b ∧ IsT8 prog w h' (k v) b ∧ k v ≠ [] := fun v hv => by
    obtain ⟨b, e, ⟨o, its, n, ho, hc, hd, hi⟩, hne⟩ := hp v hv
    exact ⟨b, e, ⟨o, its, n, keep b o (fun z => ha o (z ▸ ho) hc) ho, hc, hd, hi⟩, hne⟩
  obtain ⟨fs, h1, h2, h3⟩ := firsts8 vs hp'
  refine ⟨tuples' true, fun Q E hq => ?_, cmp8 hp'⟩
  refine PySem.W.kat_kind (T := .type "str") h1 (by omega) (fun f hm => ?_) (by rfl) ?_
  · obtain ⟨x, t, rfl⟩ := h3 f hm
    first | exact PySem.W.Looks.now | exact PySem.W.Looks.of_pure rfl
  · have e : (Value.type "str" != Value.type "tuple") = true := by first | decide +kernel | rfl | decide
    rw [e]
    exact hq
end
end K88

set_option maxHeartbeats 4000000
namespace K88
open PySem PySem.Spec PyProof.Rows L2
/-- sorted of a list of tuples of texts -/
def rSortL8 (K : PySem.W.Frag) : List V → Hp → VK → Prop := fun vs H Q => ∃ (a : Addr) (L : List Row8), vs = [V.ref a] ∧ SqL K H a (L.map fun q => V.ref q.1) ∧ Rows8 H L ∧ (∀ q, q ∈ L → q.2 ≠ []) ∧ L.length < 1000 ∧
  ∀ (L' : List Row8) (p : Addr), L'.Perm L → L'.Pairwise (fun q r => lex8 r.2 q.2 = false) → H p = none → Q (.ref p) (upd H p (.lst (L'.map fun q => V.ref q.1)))
/-- sorted of a set of them -/
def rSortS8 (P : Program) (w : World) : List V → Hp → VK → Prop := fun vs H Q => ∃ (a : Addr) (L : List Row8), vs = [V.ref a] ∧ H a = some (Set8O P w a L) ∧ Rows8 H L ∧ (∀ q, q ∈ L → q.2 ≠ []) ∧
  ∀ (L' : List Row8) (p : Addr), L'.Perm L → L'.Pairwise (fun q r => lex8 r.2 q.2 = false) → H p = none → Q (.ref p) (upd H p (.lst (L'.map fun q => V.ref q.1)))
/-- the key of a value by a list of rows -/
def key8 (L : List Row8) (v : Value) : List PySem.Str := match v with
  | .ref a => ((L.find? fun q => q.1 == a).map (·.2)).getD []
  | _ => []
theorem key8_at {L : List Row8} (one : ∀ q, q ∈ L → ∀ r, r ∈ L → q.1 = r.1 → q = r) {q : Row8} (hq : q ∈ L) : key8 L (.ref q.1) = q.2 := by
  show ((L.find? fun r => r.1 == q.1).map (·.2)).getD [] = q.2
  cases h : L.find? fun r => r.1 == q.1 with
  | none => exact absurd (List.find?_eq_none.mp h q hq) (by simp)
  | some r =>
    have h1 := List.mem_of_find?_eq_some h
    have h2 : r.1 = q.1 := by simpa using List.find?_some h
    rw [one r h1 q hq h2]
    rfl
/-- a list of the same addresses -/
theorem back8 {L : List Row8} : ∀ out : List Value, (∀ v, v ∈ out → v ∈ L.map fun q => Value.ref q.1) → ∃ L1 : List Row8, out = L1.map (fun q => Value.ref q.1) ∧ ∀ q, q ∈ L1 → q ∈ L
  | [], _ => ⟨[], rfl, fun q hq => absurd hq (by simp)⟩
  | v :: vs, h => by
    obtain ⟨L1, e, hs⟩ := back8 vs fun u hu => h u (List.mem_cons_of_mem _ hu)
    obtain ⟨q, hq, rfl⟩ := List.mem_map.mp (h v List.mem_cons_self)
    exact ⟨q :: L1, by rw [e]; rfl, fun r hr => by
      rcases List.mem_cons.mp hr with rfl | hr
      · exact hq
      · exact hs r hr⟩
theorem perm_of8 : ∀ {L L1 : List Row8}, (∀ q, q ∈ L → ∀ r, r ∈ L → q.1 = r.1 → q = r) → (∀ q, q ∈ L1 → q ∈ L) → (L1.map fun q => Value.ref q.1).Perm (L.map fun q => Value.ref q.1) → L1.Perm L
  | L, [], _, _, p => by
    have := p.length_eq
    cases L with
    | nil => exact .nil
    | cons q L => simp at this
  | L, q :: L1, one, hs, p => by
    have hq := hs q List.mem_cons_self
    obtain ⟨A, B, e⟩ := List.append_of_mem hq
    have p1 : (q :: (A ++ B)).Perm L := by rw [e]; exact List.perm_middle.symm
    have p2 : (L1.map fun q => Value.ref q.1).Perm ((A ++ B).map fun q => Value.ref q.1) := by
      have p3 := p.trans (p1.map fun q => Value.ref q.1).symm
      rw [List.map_cons, List.map_cons] at p3
      exact (List.perm_cons _).mp p3
    have sub : ∀ r, r ∈ A ++ B → r ∈ L := fun r hr => p1.mem_iff.mp (List.mem_cons_of_mem _ hr)
    refine (List.Perm.cons q (perm_of8 (fun x hx y hy => one x (sub x hx) y (sub y hy)) (fun r hr => ?_) p2)).trans p1
    have hm : Value.ref r.1 ∈ (A ++ B).map fun q => Value.ref q.1 := p2.mem_iff.mp (List.mem_map.mpr ⟨r, hr, rfl⟩)
    obtain ⟨r', hr', ee⟩ := List.mem_map.mp hm
    injection ee with ee
    rw [← one r' (sub r' hr') r (hs r (List.mem_cons_of_mem _ hr)) ee]
    exact hr'
theorem refs8 : ∀ {L : List Row8} {us : List Value}, Vals (L.map fun q => V.ref q.1) us → us = L.map fun q => Value.ref q.1
  | [], _, .nil => rfl
  | p :: L, _, .cons r t => by cases r; rw [refs8 t]; rfl
theorem vals8 : ∀ L : List Row8, Vals (L.map fun q => V.ref q.1) (L.map fun q => Value.ref q.1)
  | [] => .nil
  | p :: L => .cons rfl (vals8 L)
theorem strs_inj8 : ∀ {x y : List PySem.Str}, x.map V.str = y.map V.str → x = y
  | [], [], _ => rfl
  | [], _ :: _, h => by cases h
  | _ :: _, [], h => by cases h
  | a :: x, b :: y, h => by
    rw [List.map_cons, List.map_cons] at h
    injection h with h1 h2
    injection h1 with h1
    rw [h1, strs_inj8 h2]
theorem one_of8 {H : Hp} {L : List Row8} (h : Rows8 H L) : ∀ q, q ∈ L → ∀ r, r ∈ L → q.1 = r.1 → q = r := fun q hq r hr e => by
  have h1 := h q hq
  have h2 := h r hr
  rw [e, h2] at h1
  have h3 := strs_inj8 (HO.tup.inj (Option.some.inj h1))
  exact Prod.ext e h3.symm
theorem pair8 {L L1 : List Row8} (one : ∀ q, q ∈ L → ∀ r, r ∈ L → q.1 = r.1 → q = r) (hs : ∀ q, q ∈ L1 → q ∈ L) (h : SrtO.Srtd (fun v u => lex8 (key8 L v) (key8 L u)) (L1.map fun q => Value.ref q.1)) : L1.Pairwise (fun q r => lex8 r.2 q.2 = false) :=
  List.Pairwise.imp_of_mem (fun {q r} hq hr x => by
    have y : lex8 (key8 L (.ref r.1)) (key8 L (.ref q.1)) = false := x
    rw [key8_at one (hs q hq), key8_at one (hs r hr)] at y
    exact y) (List.pairwise_map.mp h)
section
variable {X : Cx}
theorem cr_sortL8 : CallR X (.builtin "sorted") (rSortL8 X.K) := by
  intro pins s σ H vs us Q I r h
  obtain ⟨a, L, rfl, hl, hR, hne, hz, q⟩ := h
  obtain ⟨its, rv, pl, hz2⟩ := I.list hl
  rw [Vals.ref1 r]
  have eits := refs8 rv
  have one := one_of8 hR
  have hlen : its.length = L.length := by rw [eits, List.length_map]
  have ok : ∀ (h' : Heap), (∀ b o, s.heap.get? b = some o → h'.get? b = some o) → ∀ v, v ∈ its → ∃ b, v = .ref b ∧ IsT8 X.prog X.w h' (key8 L v) b ∧ key8 L v ≠ [] := fun h' kk v hv => by
    rw [eits] at hv
    obtain ⟨p, hp, rfl⟩ := List.mem_map.mp hv
    rw [key8_at one hp]
    obtain ⟨o, is, n, ho, r'⟩ := isT8_of I (hR p hp)
    exact ⟨p.1, rfl, ⟨o, is, n, kk _ _ ho, r'⟩, hne p hp⟩
  refine SrtO.sorted_ord (swo8 (key8 L)) pl.isList (by rw [hlen, sizeLine_eq]; omega) (fun h2 h₁ b hb kk => ?_) fun out hs hst => ?_
  · refine sortable8 (s := { s with heap := h₁ }) (by omega) (ok h₁ fun b o e => (kk b o e).2) fun o e => ?_
    have e' : some o = some (seqObj "list" its.toArray 0) := e.symm.trans hb
    cases e'
    intro c
    exact absurd (Value.type.inj c) (by decide)
  · have pm := hst.perm
    rw [eits] at pm
    obtain ⟨L1, eo, hs1⟩ := back8 (L := L) out fun v hv => pm.mem_iff.mp hv
    have p1 : L1.Perm L := perm_of8 one hs1 (by rw [← eo]; exact pm)
    obtain ⟨ep, he⟩ := sortedAll_at s.heap its out.toArray
    have hl1 : (L1.map fun q => V.ref q.1).length ≤ sizeLine := by rw [List.length_map, p1.length_eq, sizeLine_eq]; omega
    have v1 : Vals (L1.map fun q => V.ref q.1) out := by rw [eo]; exact vals8 L1
    exact ⟨.ref _, upd H (s.heap.objs.size + 1) (.lst (L1.map fun q => V.ref q.1)), I.laid (t' := s.toks) (fun _ _ => sortedAll_old) (Nat.le_succ _) ⟨hl1, out, ep, v1, he⟩, rfl, q L1 _ p1 (pair8 one hs1 (by rw [← eo]; exact hs)) (I.hok.fresh (Nat.le_succ _))⟩
theorem cr_sortS8 (hc : X.calm = true) : CallR X (.builtin "sorted") (rSortS8 X.prog X.w) := by
  intro pins s σ H vs us Q I r h
  obtain ⟨a, L, rfl, ha, hR, hne, q⟩ := h
  have R : Set8 X.prog X.w s.heap a L := (I.hok a _ ha).1
  obtain ⟨o, es, ep, t, ho, hex, hd, Y⟩ := id R.ex
  have hsz := rows8_len Y.rows
  have hfew := Y.few
  have one := one_of8 hR
  rw [Vals.ref1 r]
  refine Calls.call_function_entry kind_sorted plain_sorted entry_sorted (args_sorted1 _) ?_
  unfold Builtin.«sorted»
  refine wpAny_bind (m := checkCount "sorted" 1 1 _) (wpAny_pure ?_)
  refine wpAny_bind (collect_set (A := X.A.in1) (I.ok.hd hc) ⟨o, ho, hex.1, hd⟩ Y.fits (by unfold scanBound; omega) Y.tab.ris Y.led fun s1 vs k1 hz g1 o1 pm => ?_)
  have hes : es.toList.map (·.2) = L.map fun q => Value.ref q.1 := by rw [Y.rows, rows8, List.map_map]; rfl
  rw [hes] at pm
  have hvl : vs.length ≤ 16 := by rw [pm.length_eq, List.length_map]; exact hfew
  refine wpAny_bind (wpAny_newList ?_ (by rw [sizeLine_eq]; omega))
  have hoL : (s1.heap.push (seqObj "list" vs.toArray 0)).get? s1.heap.objs.size = some (seqObj "list" vs.toArray 0) := Heap.get?_push_size _ rfl
  have ok : ∀ v, v ∈ vs → ∃ b, v = .ref b ∧ IsT8 X.prog X.w (s1.heap.push (seqObj "list" vs.toArray 0)) (key8 L v) b ∧ key8 L v ≠ [] := fun v hv => by
    obtain ⟨p, hp, rfl⟩ := List.mem_map.mp (pm.mem_iff.mp hv)
    rw [key8_at one hp]
    obtain ⟨o, is, n, ho, r'⟩ := isT8_of I (hR p hp)
    exact ⟨p.1, rfl, ⟨o, is, n, Heap.get?_push_of_some _ (k1 _ _ ho), r'⟩, hne p hp⟩
  refine wpAny_bind (wpAny_holding (wpAny_call_entry slot_list_sort ⟨_, hoL, rfl⟩ entry_list_sort (SrtO.list_sort_ord (s := { s1 with heap := s1.heap.push (seqObj "list" vs.toArray 0) }) (swo8 (key8 L)) hoL (by rw [sizeLine_eq]; omega) (fun h2 => ?_) fun out hs hst => ⟨_, rfl, ?_⟩) (args_list_sort _)))
  · refine sortable8 (s := { s1 with heap := s1.heap.push (seqObj "list" vs.toArray 0) }) (by omega) ok fun o e => ?_
    have e' : some o = some (seqObj "list" vs.toArray 0) := e.symm.trans hoL
    cases e'
    intro c
    exact absurd (Value.type.inj c) (by decide)
  · have pm2 := hst.perm.trans pm
    obtain ⟨L1, eo, hs1⟩ := back8 (L := L) out fun v hv => pm2.mem_iff.mp hv
    have p1 : L1.Perm L := perm_of8 one hs1 (by rw [← eo]; exact pm2)
    obtain ⟨c, he⟩ := sortedHeap_at (vs := vs) (out := out.toArray) hoL
    have hl1 : (L1.map fun q => V.ref q.1).length ≤ sizeLine := by rw [List.length_map, p1.length_eq, sizeLine_eq]; omega
    have v1 : Vals (L1.map fun q => V.ref q.1) out := by rw [eo]; exact vals8 L1
    have kk : ∀ b u, s.heap.get? b = some u → (sortedHeap (s1.heap.push (seqObj "list" vs.toArray 0)) s1.heap.objs.size vs out.toArray).get? b = some u := fun b u e => by
      have q := k1 b u e
      have hlt := Heap.lt_size q
      rw [sortedHeap_old (Nat.ne_of_lt hlt) (by rw [size_push']; exact Nat.lt_succ_of_lt hlt)]
      exact Heap.get?_push_of_some _ q
    refine wpAny_pure ⟨_, rfl, ?_⟩
    have hn : H s1.heap.objs.size = none := I.hok.fresh hz
    refine ⟨.ref _, upd H s1.heap.objs.size (.lst (L1.map fun q => V.ref q.1)), ?_, rfl, q L1 _ p1 (pair8 one hs1 (by rw [← eo]; exact hs)) hn⟩
    have J : Inv X pins σ (upd H s1.heap.objs.size (.lst (L1.map fun q => V.ref q.1))) { s with heap := sortedHeap (s1.heap.push (seqObj "list" vs.toArray 0)) s1.heap.objs.size vs out.toArray, gens := s1.gens, drawn := s1.drawn, toks := s1.toks } :=
      I.call (ch := []) (Un.laid kk hz hn) (I.hok.laid kk hz ⟨hl1, out, c, v1, he⟩) (by rw [g1]; exact I.bare) (fun _ z => nomatch z)
    have e : ({ s1 with heap := sortedHeap (s1.heap.push (seqObj "list" vs.toArray 0)) s1.heap.objs.size vs out.toArray } : Shared) = { s with heap := sortedHeap (s1.heap.push (seqObj "list" vs.toArray 0)) s1.heap.objs.size vs out.toArray, gens := s1.gens, drawn := s1.drawn, toks := s1.toks } := by
      cases s1
      cases s
      cases o1
      rfl
    rw [e]
    exact J
end
end K88

set_option maxHeartbeats 4000000
namespace K88
open PySem PySem.Spec PyProof.Rows L2
section
variable {X : Cx}
/-- xs.extend(t), t a tuple -/
def rExtT : V → List V → Hp → VK → Prop := fun x vs H Q => ∃ l b xs zs, x = .ref l ∧ vs = [.ref b] ∧ H l = some (.lst xs) ∧ H b = some (.tup zs) ∧ xs.length + zs.length ≤ sizeLine ∧ Q .non (upd H l (.lst (xs ++ zs)))
theorem mt_extT : MtM X "list.extend" rExtT := by
  intro pins s σ H x vs v us Q I rx rv h
  obtain ⟨l, b, xs, zs, rfl, rfl, hH, hB, hz, q⟩ := h
  cases rx
  obtain ⟨u, rfl, ru⟩ := rv.one
  cases ru
  obtain ⟨z, its, n, r, hl, e⟩ := I.lstM hH
  obtain ⟨z9, its9, r9, o9, e9, c9, n9, d9⟩ := I.hok b _ hB
  have hl9 := r9.length
  have hsz : its.toArray.size + its9.toArray.size ≤ sizeLine := by rw [List.size_toArray, List.size_toArray]; omega
  refine wpAny_call_entry F.slot_list_extend ⟨_, e, rfl⟩ F.entry_list_extend ?_ (F.args_list_extend_2 _ _)
  show wpAny _ _ (Builtin.List.listExtendWith (.ref l) (.ref b) .none) _ _ s
  unfold Builtin.List.listExtendWith
  refine wpAny_bind (wpAny_typeOf ⟨o9, e9, c9⟩ ?_)
  have h1 : (Builtin.List.listSameRef (.ref l) (.ref b) || Value.type "tuple" == Value.type "list" || Value.type "tuple" == Value.type "tuple") = true := by simp
  simp only [h1, if_true]
  unfold Builtin.List.listItems
  refine wpAny_bind (wpAny_bind (wpAny_seqItems e9 d9 (wpAny_pure ?_)))
  refine wpAny_bind (wpAny_bind (wpAny_seqItems e rfl (wpAny_pure ?_)))
  refine wp_if_neg ?_ ?_
  · rw [notLongL hsz, Bool.and_false]
    exact Bool.false_ne_true
  unfold Builtin.List.listUpdate
  refine wpAny_bind (wpAny_updateSeq e rfl (hz := by rw [List.size_toArray]; omega) ?_)
  refine wpAny_pure ⟨_, rfl, .non, _, I.lset (its' := its ++ its9) hH e (by simp) (r.append r9) ?_, rfl, q⟩
  rw [List.length_append]
  omega
/-- xs.remove(t), xs a list of tuples of texts, t one of them -/
def rRem8 : V → List V → Hp → VK → Prop := fun x vs H Q => ∃ (l a : Addr) (L : List Row8) (q : Row8) (j : Nat), x = .ref l ∧ vs = [.ref a] ∧ H a = some (.tup (q.2.map V.str)) ∧ H l = some (.lst (L.map fun r => V.ref r.1)) ∧ Rows8 H L ∧ L[j]? = some q ∧ (∀ (m : Nat) (r : Row8), m < j → L[m]? = some r → r.2 ≠ q.2) ∧
  Q .non (upd H l (.lst ((L.eraseIdx j).map fun r => V.ref r.1)))
theorem erase8 : ∀ (L : List Row8) (j : Nat), (L.map fun r => V.ref r.1).eraseIdx j = (L.eraseIdx j).map fun r => V.ref r.1
  | [], j => by simp
  | a :: r, 0 => by simp
  | a :: r, j + 1 => by simp [erase8 r j]
theorem erase8' : ∀ (L : List Row8) (j : Nat), (L.map fun r => Value.ref r.1).eraseIdx j = (L.eraseIdx j).map fun r => Value.ref r.1
  | [], j => by simp
  | a :: r, 0 => by simp
  | a :: r, j + 1 => by simp [erase8' r j]
theorem isT8_any {pins : List (Addr × Obj)} {σ : L2.St} {H : Hp} {s : Shared} (I : Inv X pins σ H s) {b : Addr} {k : List PySem.Str} (h : H b = some (.tup (k.map V.str))) (P : Program) (w : World) : IsT8 P w s.heap k b := by
  obtain ⟨its, r, ⟨o, ho, hc, n, hd⟩, _⟩ := I.tuple (Evl.st_of h)
  exact ⟨o, its.toArray, n, ho, hc, hd, by simpa using items8 r⟩
theorem mt_rem8 (hu : X.A.units + 64 < cLine) : MtM X "list.remove" rRem8 := by
  intro pins s σ H x vs v us Q I rx rv h
  obtain ⟨l, a, L, q, j, rfl, rfl, hA, hH, hR, hj, hno, k⟩ := h
  cases rx
  obtain ⟨u, rfl, ru⟩ := rv.one
  cases ru
  obtain ⟨z, its, n, r, hl, e⟩ := I.lstM hH
  have eits := refs8 r
  subst eits
  obtain ⟨hjn, hjq⟩ := List.getElem?_eq_some_iff.mp hj
  have one := one_of8 hR
  have hqL : q ∈ L := List.mem_of_getElem? hj
  have key : ∀ r, r ∈ L → key8 L (.ref r.1) = r.2 := fun r hr => key8_at one hr
  have at_ : ∀ (m : Nat) (hm : m < (L.map fun q => Value.ref q.1).toArray.size), (L.map fun q => Value.ref q.1).toArray[m] = .ref (L[m]'(by simpa using hm)).1 := fun m hm => by simp
  refine call_meets PySem.F.slot_list_remove ⟨_, e, rfl⟩ PySem.F.entry_list_remove (PySem.F.args_list_remove_2 _ _)
    (SeqAt.list_removeAt l _ n none #[] (.ref a) (fun v => decide (key8 L v = q.2)) j (by simpa using hjn) ?_ ?_ (by rw [List.length_map] at z; simpa using z)) ⟨e, ?_, ?_⟩
  · rw [at_, hjq]
    exact decide_eq_true (key q hqL)
  · intro m hm hmj
    rw [at_]
    have hm' : m < L.length := by simpa using hm
    exact decide_eq_false (fun c => hno m _ hmj (List.getElem?_eq_getElem hm') ((key _ (List.getElem_mem hm')).symm.trans c))
  · intro y hy
    have hy2 : y ∈ L.map fun q => Value.ref q.1 := by simpa using hy
    obtain ⟨p, hp, rfl⟩ := List.mem_map.mp hy2
    intro P' w' Q' E' hq
    rw [key p hp] at hq
    exact wpAny_eqBool_tuple (by show X.A.units + 1 < cLine; omega) (isT8_any I (hR p hp) P' w') (isT8_any I hA P' w') hq
  · have hz : (L.map fun r => V.ref r.1).eraseIdx j = (L.eraseIdx j).map fun r => V.ref r.1 := erase8 L j
    refine ⟨.non, _, I.lset (its' := (L.eraseIdx j).map fun r => Value.ref r.1) hH e ?_ (vals8 _) ?_, rfl, k⟩
    · rw [← erase8']
      simp [Array.eraseIdxIfInBounds, hjn]
    · rw [List.length_map]
      have := List.length_eraseIdx_le L j
      rw [List.length_map] at z
      omega
end
end K88

set_option maxHeartbeats 4000000
namespace K88
open PySem L2 Evl
/-! ### statements, procedures: the law's cores as data -/
inductive Arg where
  | arr (x : Str)
  | num (x : Str)
def Arg.isA : Arg → Bool
  | .arr _ => true
  | .num _ => false
def Arg.nm : Arg → Str
  | .arr x => x
  | .num x => x
def Arg.da : Arg → Da
  | .arr x => .t [.s "array", .s x]
  | .num x => .t [.s "minus", .t [.s "name", .s x], .t [.s "number", .i 1]]
def pts : Option Int → List Da
  | none => []
  | some n => [.i n]
inductive Stm where
  | set (x : Str) (e : Da)
  | push (e : Da) (a : Str)
  | store (a : Str) (e1 e2 : Da)
  | pop (x a : Str)
  | pause (p : Option Int)
  | call (c : Str) (as : List Arg) (ts : List Str) (p : Option Int)
  | ite (t : Da) (b c : List Stm)
  | whl (t : Da) (b : List Stm) (p : Option Int)
def Stm.tag : Stm → Str
  | .set _ _ => "set"
  | .push _ _ => "push"
  | .store _ _ _ => "store"
  | .pop _ _ => "pop"
  | .pause _ => "pause"
  | .call _ _ _ _ => "call"
  | .ite _ _ _ => "if"
  | .whl _ _ _ => "while"
mutual
def Stm.da : Stm → Da
  | .set x e => .t [.s "set", .t [.t [.s x, e]]]
  | .push e a => .t [.s "push", e, .s a]
  | .store a e1 e2 => .t [.s "store", .s a, e1, e2]
  | .pop x a => .t [.s "pop", .s x, .s a]
  | .pause p => .t ([.s "pause"] ++ pts p)
  | .call c as ts p => .t ([.s "call", .s c, .t (as.map Arg.da), .t (ts.map Da.s)] ++ pts p)
  | .ite t b c => .t [.s "if", t, .t (das b), .t (das c)]
  | .whl t b p => .t ([.s "while", t, .t (das b)] ++ pts p)
def das : List Stm → List Da
  | [] => []
  | s :: r => s.da :: das r
end
theorem das_map : ∀ b : List Stm, das b = b.map Stm.da
  | [] => by rw [das]; rfl
  | s :: r => by rw [das, das_map r]; rfl
theorem das_len (b : List Stm) : (das b).length = b.length := by rw [das_map, List.length_map]
theorem das_get {b : List Stm} {i : Nat} {s : Stm} (h : b[i]? = some s) : (das b)[i]? = some s.da := by rw [das_map, List.getElem?_map, h]; rfl
/-- the statement's rest behind its tag -/
def Stm.rest (s : Stm) : List Da := match s.da with
  | .t (_ :: r) => r
  | _ => []
theorem stm_da (s : Stm) : s.da = .t (.s s.tag :: s.rest) := by
  cases s <;> (unfold Stm.rest; rw [Stm.da]; rfl)
/-- blocks of a bounded depth, no points -/
def Wb : Nat → List Stm → Prop
  | 0, _ => False
  | d + 1, b => b.length ≤ 4 ∧ ∀ s, s ∈ b → match s with
    | .ite _ x y => Wb d x ∧ Wb d y
    | .whl _ x p => p = none ∧ Wb d x
    | .pause p => p = none
    | .call _ _ ts p => p = none ∧ ts.length ≤ 1
    | _ => True
/-- all statements, in the text's order -/
def flat : Nat → List Stm → List Stm
  | 0, _ => []
  | d + 1, b => b.flatMap fun s => s :: (match s with
    | .ite _ x y => flat d x ++ flat d y
    | .whl _ x _ => flat d x
    | _ => [])
theorem flat_cons (d : Nat) (s : Stm) (b : List Stm) : flat (d + 1) (s :: b) = (s :: (match s with
    | .ite _ x y => flat d x ++ flat d y
    | .whl _ x _ => flat d x
    | _ => [])) ++ flat (d + 1) b := by
  rw [flat, flat, List.flatMap_cons]
def fcap : Nat → Nat
  | 0 => 0
  | d + 1 => 4 * (1 + 2 * fcap d)
theorem flatMap_len {α β : Type} (f : α → List β) (k : Nat) : ∀ l : List α, (∀ x, x ∈ l → (f x).length ≤ k) → (l.flatMap f).length ≤ l.length * k
  | [], _ => by simp
  | x :: l, h => by
    rw [List.flatMap_cons, List.length_append, List.length_cons, Nat.succ_mul]
    have h1 := h x List.mem_cons_self
    have h2 := flatMap_len f k l fun y hy => h y (List.mem_cons_of_mem _ hy)
    omega
theorem flat_len : ∀ (d : Nat) (b : List Stm), Wb d b → (flat d b).length ≤ fcap d
  | 0, _, h => h.elim
  | d + 1, b, h => by
    rw [flat]
    refine Nat.le_trans (flatMap_len _ (1 + 2 * fcap d) b fun s hs => ?_) (by rw [fcap]; exact Nat.mul_le_mul_right _ h.1)
    have hs2 := h.2 s hs
    cases s with
    | ite t x y =>
      have h1 := flat_len d x hs2.1
      have h2 := flat_len d y hs2.2
      simp only [List.length_cons, List.length_append]
      omega
    | whl t x p =>
      have h1 := flat_len d x hs2.2
      simp only [List.length_cons]
      omega
    | _ => simp only [List.length_cons, List.length_nil]; omega
theorem fcap4 : fcap 4 = 2340 := by decide +kernel
theorem fcap_le {d : Nat} (h : d ≤ 4) : fcap d ≤ 2340 := by
  have : d = 0 ∨ d = 1 ∨ d = 2 ∨ d = 3 ∨ d = 4 := by omega
  rcases this with rfl | rfl | rfl | rfl | rfl <;> decide +kernel
/-! procedures -/
structure Prc where
  name : Str
  items : List (Bool × Str)
  res : List Str
  plc : Da
  body : List Stm
  iv : List Str
  av : List Str
def ikind (b : Bool) : Str := if b then "array" else "int"
def itemDa (it : Bool × Str) : Da := .t [.s (ikind it.1), .s it.2]
def Prc.da (p : Prc) : Da := .t [.s p.name, .t (p.items.map itemDa), .t (p.res.map Da.s), p.plc, .t [], .t [], .t [], .t [], .t (das p.body)]
def coreDa (C : List Prc) : Da := .t (C.map Prc.da)
/-- the number sign ahead -/
def hsh (x : Str) : Str := "#" ++ x
/-- a statement that fits the core -/
def OkS (C : List Prc) (p : Prc) : Stm → Prop
  | .set x _ => x ∈ p.iv
  | .push _ a => a ∈ p.av
  | .pop x a => x ∈ p.iv ∧ a ∈ p.av
  | .call c as ts _ => (∀ t, t ∈ ts → t ∈ p.iv) ∧ (∀ x, Arg.arr x ∈ as → x ∈ p.av) ∧ ∃ q, q ∈ C ∧ q.name = c ∧ as.map Arg.isA = q.items.map (·.1)
  | _ => True
structure OkP (C : List Prc) (p : Prc) : Prop where
  wb : Wb 4 p.body
  ok : ∀ s, s ∈ flat 4 p.body → OkS C p s
  il : p.items.length = 3
  ia : ∀ it, it ∈ p.items → it.2 ∈ (if it.1 then p.av else p.iv)
  ri : p.iv.length = 3
  ra : p.av.length = 3
  nd : (p.iv ++ p.av).Nodup
  sh : ∀ x, x ∈ p.iv ++ p.av → ∀ y, x ≠ hsh y
  sz : ∀ x : Str, x ∈ p.iv ++ p.av → x.length ≤ 10
  so : ∀ x : Str, x ∈ p.iv ++ p.av → PyData.strOk x = true
structure OkC (C : List Prc) : Prop where
  n1 : 1 ≤ C.length
  n6 : C.length ≤ 6
  srt : C.Pairwise fun p q => ltS p.name q.name = true
  ok : ∀ p, p ∈ C → OkP C p
  no : ∀ p, p ∈ C → PyData.strOk p.name = true
end K88

set_option maxHeartbeats 4000000
namespace K88
open PySem L2 Evl
/-! ### lists of data that grow -/
theorem exs_base {l : Addr} {H0 H H1 : Hp} (h0 : H0 l = none) (e : Ex H0 H) (x : Exs l H H1) : Ex H0 H1 := fun b o hb => x b o (fun z => by rw [z, h0] at hb; cases hb) (e b o hb)
theorem exs_upd {l : Addr} {H : Hp} {o : HO} : Exs l H (upd H l o) := (Exs.refl H).upd
def IsLR (K : PySem.W.Frag) (ds : List Da) : V → Hp → Prop := fun v H => ∃ p vs, v = .ref p ∧ H p = some (.lst vs) ∧ Reps K H vs ds
def NewLR (K : PySem.W.Frag) (ds : List Da) : V → Hp → Hp → Prop := fun v H1 H2 => ∃ p vs, v = .ref p ∧ H1 p = none ∧ H2 p = some (.lst vs) ∧ Reps K H2 vs ds
def RetLR (K : PySem.W.Frag) (ds : List Da) (H : Hp) (Q : VK) : Prop := ∀ p vs H2, H p = none → Ex H H2 → H2 p = some (.lst vs) → Reps K H2 vs ds → Q (.ref p) H2
theorem sta_LR {K : PySem.W.Frag} {ds : List Da} : Sta (IsLR K ds) := fun _ _ _ e ⟨p, vs, h1, h2, h3⟩ => ⟨p, vs, h1, e _ _ h2, h3.ex e⟩
/-- the state of a loop that fills a list: H0 the heap ahead, the list's address told by the slots -/
def Acc (K : PySem.W.Frag) (H0 : Hp) (SI : Addr → L2.St → Prop) (l : List Da) (σ : L2.St) (H : Hp) : Prop := ∃ F us, Ex H0 H ∧ H0 F = none ∧ SI F σ ∧ H F = some (.lst us) ∧ Reps K H us l
section
variable {K : PySem.W.Frag} {σ : L2.St} {H H' H0 : Hp} {ta tb te tl : TE} {x y z v : V} {P P' : V → Hp → Prop} {D : Ends} {tu tw tz : TS} {ds l0 : List Da} {d : Da} {us vs : List V} {l a F : Addr}
theorem ep_LR (h : EvF te σ H (NewLR K ds)) : EvP te σ H (IsLR K ds) := fun H1 e Q q => h H1 e Q fun v H2 e2 ⟨p, vs, h1, _, h3⟩ => q v H2 e2 ⟨p, vs, h1, h3⟩
theorem ep_R (h : Ev te σ H v) (r : Rep K H v d) : EvP te σ H (fun v H => Rep K H v d) := fun H1 e Q q => h H1 e _ fun H2 e2 => q _ H2 e2 (r.ex (e.trans e2))
theorem ep_Rs {x : Str} (h : Ev te σ H (.str x)) : EvP te σ H (fun v H => Rep K H v (.s x)) := ep_R h (by unfold Rep; rfl)
theorem ep_Ri {n : Int} (h : Ev te σ H (.int n)) : EvP te σ H (fun v H => Rep K H v (.i n)) := ep_R h (by unfold Rep; rfl)
theorem reps_new (h : H F = none) (r : Reps K H us ds) {o : HO} : Reps K (upd H F o) us ds := r.ex (Ex.new h)
/-- a call that gives a new list -/
theorem ef_callR {sp : Sp} {ta : TA} {vs : List V} {E : XK} (h : EvA ta σ H vs) (hs : ∀ H1, Ex H H1 → ∀ Q : VK, RetLR K ds H1 Q → ∀ E : XK, sp vs H1 Q E) : EvF (tCall sp [] E ta) σ H (NewLR K ds) := fun H1 e Q q =>
  h H1 e _ fun H2 e2 => by
    show sp (vs ++ []) H2 Q E
    rw [List.append_nil]
    exact hs H2 (e.trans e2) Q (fun p us H3 hp e3 h3 r3 => q _ H3 (e2.trans e3) ⟨p, us, rfl, fresh_back e2 hp, h3, r3⟩) E
/-! tuples and lists of data -/
theorem er_nil : EvAP tNil σ H (fun vs H2 => Reps K H2 vs []) := fun H1 _ Q q => q [] H1 (Ex.refl _) Reps.nil_
theorem er_cons {tr : TA} (h : EvP ta σ H (fun v H => Rep K H v d)) (hr : EvAP tr σ H (fun vs H2 => Reps K H2 vs ds)) : EvAP (tCons ta tr) σ H (fun vs H2 => Reps K H2 vs (d :: ds)) := fun H1 e Q q =>
  h H1 e _ fun x H2 e2 p => hr H2 (e.trans e2) _ fun r H3 e3 pr => q _ H3 (e2.trans e3) (Reps.cons_ (p.ex e3) pr)
theorem er_tup {t : TA} (h : EvAP t σ H (fun vs H2 => Reps K H2 vs ds)) (hz : ds.length ≤ 100000) : EvP (tTup t) σ H (fun v H => Rep K H v (.t ds)) := fun H1 e Q q =>
  h H1 e _ fun vs H2 e2 r => ⟨sz_of (by rw [r.len]; exact hz), fun p hp => q _ _ (e2.trans (Ex.new hp)) (rep_t upd_same (reps_new hp r))⟩
theorem er_lst {t : TA} (h : EvAP t σ H (fun vs H2 => Reps K H2 vs ds)) (hz : ds.length ≤ 100000) : EvF (tLst t) σ H (NewLR K ds) := fun H1 e Q q =>
  h H1 e _ fun vs H2 e2 r => ⟨sz_of (by rw [r.len]; exact hz), fun p hp => q _ _ (e2.trans (Ex.new hp)) ⟨p, vs, rfl, fresh_back e2 hp, upd_same, reps_new hp r⟩⟩
theorem ef_nil (K : PySem.W.Frag) : EvF (tLst tNil) σ H (NewLR K []) := er_lst er_nil (by simp)
/-- tuple(a list) -/
theorem er_tupL (h : EvP te σ H (IsLR K ds)) : EvP (tCB (fun xs H Q => ∃ p ys, xs = [V.ref p] ∧ ((SqL K H p ys ∧ ∀ l, H l = none → Q (V.ref l) (upd H l (.tup ys))) ∨ (SqT K H p ys ∧ Q (V.ref p) H))) (tCons te tNil)) σ H (fun v H => Rep K H v (.t ds)) := fun H1 e Q q =>
  h H1 e _ fun v H2 e2 ⟨p, vs, hv, hp, r⟩ => ⟨p, vs, by rw [hv], .inl ⟨sq_of hp, fun l hl => q _ _ (e2.trans (Ex.new hl)) (rep_t upd_same (reps_new hl r))⟩⟩
/-- list(a tuple) -/
theorem ef_lstT (h : EvP te σ H (fun v H => Rep K H v (.t ds))) : EvF (tCB (fun xs H Q => ∃ p ys, xs = [V.ref p] ∧ (SqL K H p ys ∨ SqT K H p ys) ∧ ∀ l, H l = none → Q (V.ref l) (upd H l (.lst ys))) (tCons te tNil)) σ H (NewLR K ds) := fun H1 e Q q =>
  h H1 e _ fun v H2 e2 r => by
    unfold Rep at r
    obtain ⟨p, vs, hv, hp, r⟩ := r
    exact ⟨p, vs, by rw [hv], .inr (st_of hp), fun l hl => q _ _ (e2.trans (Ex.new hl)) ⟨l, vs, rfl, fresh_back e2 hl, upd_same, reps_new hl r⟩⟩
/-- the i-th of a datum -/
theorem ev_ixR {i : Nat} {ds : List Da} (h : Ev te σ H v) (r : Rep K H v (.t ds)) (hd : ds[i]? = some d) : EvP (tOp (rIxT K) te (tC (.int (i : Int)))) σ H (fun v H => Rep K H v d) := by
  unfold Rep at r
  obtain ⟨p, vs, rfl, hp, r⟩ := r
  obtain ⟨w, hw, rw'⟩ := r.at_ hd
  exact ep_R (ev_ixT (i := i) h ev_c hp hw) rw'
theorem ev_ixRs {i : Nat} {ds : List Da} {x : Str} (h : Ev te σ H v) (r : Rep K H v (.t ds)) (hd : ds[i]? = some (.s x)) : Ev (tOp (rIxT K) te (tC (.int (i : Int)))) σ H (.str x) :=
  ev_of (ev_ixR h r hd) fun v' H2 p => by unfold Rep at p; exact p
theorem ev_ixRi {i : Nat} {ds : List Da} {x : Int} (h : Ev te σ H v) (r : Rep K H v (.t ds)) (hd : ds[i]? = some (.i x)) : Ev (tOp (rIxT K) te (tC (.int (i : Int)))) σ H (.int x) :=
  ev_of (ev_ixR h r hd) fun v' H2 p => by unfold Rep at p; exact p
/-- the tag of a statement -/
theorem ev_tag {s : Stm} (h : Ev te σ H v) (r : Rep K H v s.da) : Ev (tOp (rIxT K) te (tC (.int 0))) σ H (.str s.tag) := by
  rw [stm_da] at r
  exact ev_ixRs (i := 0) h r rfl
theorem et_tag {s : Stm} {x : Str} (h : Ev te σ H v) (r : Rep K H v s.da) : EvT (tTest (tOp rEq (tOp (rIxT K) te (tC (.int 0))) (tC (.str x)))) σ H (decide (s.tag = x)) := by
  refine et_test (ev_is (ev_op (ev_tag h r) ev_c (rv_eq rfl)) ?_)
  congr 1
  exact decide_eq_decide.mpr ⟨fun h => by injection h, fun h => by rw [h]⟩
theorem et_strs {x y : Str} (h : Ev ta σ H (.str x)) (h' : Ev tb σ H (.str y)) : EvT (tTest (tOp rEq ta tb)) σ H (decide (x = y)) := by
  refine et_test (ev_is (ev_op h h' (rv_eq rfl)) ?_)
  congr 1
  exact decide_eq_decide.mpr ⟨fun h => by injection h, fun h => by rw [h]⟩
/-! statements -/
theorem s_appR {te : TE} (hl : H l = some (.lst us)) (hr : Reps K H us l0) (hz : l0.length < 100000) (ha : Ev ta σ H (.ref l)) (h : EvP te σ H (fun v H => Rep K H v d))
    (k : ∀ H1 us', Exs l H H1 → H1 l = some (.lst us') → Reps K H1 us' (l0 ++ [d]) → D.nx σ H1) : tDrop (tBM K "list" rAppend ta (tCons te tNil)) D σ H := ha H (Ex.refl H) _ fun H1 e1 =>
  ⟨Or.inl ⟨rfl, us, sq_of (e1 l _ hl)⟩, h H1 e1 _ fun v H2 e2 r => ⟨l, us, v, rfl, rfl, e2 l _ (e1 l _ hl), sz_lt (by rw [hr.len]; exact hz), k _ _ ((Ex.s (e1.trans e2)).upd) upd_same
    ((Reps.append (hr.ex (e1.trans e2)) (Reps.cons_ r Reps.nil_)).exs (e2 l _ (e1 l _ hl)) exs_upd)⟩⟩
theorem q_appR {te : TE} (hl : H l = some (.lst us)) (hr : Reps K H us l0) (hz : l0.length < 100000) (ha : Ev ta σ H (.ref l)) (h : EvP te σ H (fun v H => Rep K H v d))
    (k : ∀ H1 us', Exs l H H1 → H1 l = some (.lst us') → Reps K H1 us' (l0 ++ [d]) → tz D σ H1) : tSeq (tDrop (tBM K "list" rAppend ta (tCons te tNil))) tz D σ H := s_appR (D := { D with nx := tz D }) hl hr hz ha h k
theorem s_extR {te : TE} (hl : H l = some (.lst us)) (hr : Reps K H us l0) (hz : l0.length + ds.length ≤ 100000) (ha : Ev ta σ H (.ref l)) (h : EvP te σ H (IsLR K ds))
    (k : ∀ H1 us', Exs l H H1 → H1 l = some (.lst us') → Reps K H1 us' (l0 ++ ds) → D.nx σ H1) : tDrop (tBM K "list" rExtend ta (tCons te tNil)) D σ H := ha H (Ex.refl H) _ fun H1 e1 =>
  ⟨Or.inl ⟨rfl, us, sq_of (e1 l _ hl)⟩, h H1 e1 _ fun v H2 e2 ⟨p, ws, hv, hp, r⟩ => ⟨l, p, us, ws, rfl, by rw [hv], e2 l _ (e1 l _ hl), hp, sz_of (by rw [hr.len, r.len]; exact hz), k _ _ ((Ex.s (e1.trans e2)).upd) upd_same
    ((Reps.append (hr.ex (e1.trans e2)) r).exs (e2 l _ (e1 l _ hl)) exs_upd)⟩⟩
theorem s_extTR {te : TE} (hl : H l = some (.lst us)) (hr : Reps K H us l0) (hz : l0.length + ds.length ≤ 100000) (ha : Ev ta σ H (.ref l)) (h : EvP te σ H (fun v H => Rep K H v (.t ds)))
    (k : ∀ H1 us', Exs l H H1 → H1 l = some (.lst us') → Reps K H1 us' (l0 ++ ds) → D.nx σ H1) : tDrop (tBM K "list" rExtT ta (tCons te tNil)) D σ H := ha H (Ex.refl H) _ fun H1 e1 =>
  ⟨Or.inl ⟨rfl, us, sq_of (e1 l _ hl)⟩, h H1 e1 _ fun v H2 e2 r => by
    unfold Rep at r
    obtain ⟨p, ws, hv, hp, r⟩ := r
    exact ⟨l, p, us, ws, rfl, by rw [hv], e2 l _ (e1 l _ hl), hp, sz_of (by rw [hr.len, r.len]; exact hz), k _ _ ((Ex.s (e1.trans e2)).upd) upd_same
      ((Reps.append (hr.ex (e1.trans e2)) r).exs (e2 l _ (e1 l _ hl)) exs_upd)⟩⟩
theorem ef_catR {la lb : List Da} (ha : EvP ta σ H (IsLR K la)) (hb : EvP tb σ H (IsLR K lb)) (hz : la.length + lb.length ≤ 100000) : EvF (tOp rCat ta tb) σ H (NewLR K (la ++ lb)) := fun H1 e Q q =>
  ha H1 e _ fun x H2 e2 ⟨p, xs, hx, h1, r1⟩ => hb H2 (e.trans e2) _ fun y H3 e3 ⟨p2, ys, hy, h2, r2⟩ => by
    subst hx hy
    exact ⟨p, p2, xs, ys, rfl, rfl, e3 _ _ h1, h2, sz_of (by rw [r1.len, r2.len]; exact hz), fun p3 hp3 => q _ _ ((e2.trans e3).trans (Ex.new hp3)) ⟨p3, xs ++ ys, rfl, fresh_back (e2.trans e3) hp3, upd_same, reps_new hp3 (Reps.append (r1.ex e3) r2)⟩⟩
theorem s_asgR {i : Nat} (h : EvF te σ H (NewLR K ds)) (k : ∀ p vs H1, H p = none → Ex H H1 → H1 p = some (.lst vs) → Reps K H1 vs ds → D.nx (σ.set i (some (.ref p))) H1) : tAsg te (gName i) D σ H :=
  h H (Ex.refl _) _ fun v H1 e ⟨p, vs, hv, hp, h1, r⟩ => by subst hv; exact k p vs H1 hp e h1 r
theorem q_asgR {i : Nat} (h : EvF te σ H (NewLR K ds)) (k : ∀ p vs H1, H p = none → Ex H H1 → H1 p = some (.lst vs) → Reps K H1 vs ds → tz D (σ.set i (some (.ref p))) H1) : tSeq (tAsg te (gName i)) tz D σ H := s_asgR (D := { D with nx := tz D }) h k
theorem s_asgP {i : Nat} (h : EvP te σ H P) (k : ∀ v H1, Ex H H1 → P v H1 → D.nx (σ.set i (some v)) H1) : tAsg te (gName i) D σ H := h H (Ex.refl _) _ k
theorem q_asgP {i : Nat} (h : EvP te σ H P) (k : ∀ v H1, Ex H H1 → P v H1 → tz D (σ.set i (some v)) H1) : tSeq (tAsg te (gName i)) tz D σ H := h H (Ex.refl _) _ k
theorem s_retP (h : EvP te σ H P) (k : ∀ v H1, Ex H H1 → P v H1 → D.rt v H1) : tRet te D σ H := h H (Ex.refl _) _ k
theorem s_retR (h : EvF te σ H (NewLR K ds)) (k : ∀ p vs H1, H p = none → Ex H H1 → H1 p = some (.lst vs) → Reps K H1 vs ds → D.rt (.ref p) H1) : tRet te D σ H :=
  h H (Ex.refl _) _ fun v H1 e ⟨p, vs, hv, hp, h1, r⟩ => by subst hv; exact k p vs H1 hp e h1 r
/-! loops that fill a list -/
theorem Reps.keep8 {st : Addr} {ys : List V} {H1 : Hp} (hs : H1 st = some (.lst ys)) (r : Rep K H1 v d) : Rep K (del st H1) v d := r.exs hs fun b' o hb ho => (del_ne hb).trans ho
theorem take_succ_of {α : Type} {l : List α} {i : Nat} {x : α} (h : l[i]? = some x) : l.take (i + 1) = l.take i ++ [x] := by
  rw [List.take_succ, h]; rfl
theorem s_accT {α : Type} {b : List α} {g : α → Da} {f : α → List Da} {SI : Addr → L2.St → Prop} {j : Nat} {l0 : List Da} (h : Ev tl σ H (.ref a)) (hx : H0 a = some (.tup vs)) (hr : Reps K H0 vs (b.map g)) (h0 : Acc K H0 SI l0 σ H)
    (hs : ∀ (i : Nat) (x : α) (v : V) σ' H', b[i]? = some x → Rep K H' v (g x) → Acc K H0 SI (l0 ++ (b.take i).flatMap f) σ' H' → tu { D with nx := Acc K H0 SI (l0 ++ (b.take i).flatMap f ++ f x), ct := Acc K H0 SI (l0 ++ (b.take i).flatMap f ++ f x), bk := D.nx } (σ'.set j (some v)) H')
    (hd : ∀ σ' H', Acc K H0 SI (l0 ++ b.flatMap f) σ' H' → D.nx σ' H') : tFor (iTup K tl) (gName j) tu D σ H := by
  have hl : vs.length = b.length := by rw [hr.len, List.length_map]
  have e0 : Ex H0 H := by obtain ⟨_, _, e, _⟩ := h0; exact e
  refine s_forT h (st_of (e0 _ _ hx)) (fun i => Acc K H0 SI (l0 ++ (b.take i).flatMap f)) (fun H1 e1 => ?_) (fun i σ' H' _ p => ?_) (fun i v σ' H' hv p => ?_) (fun σ' H' p => ?_)
  · obtain ⟨F, us, e, hF, si, hf, r⟩ := h0
    exact ⟨F, us, e.trans e1, hF, si, e1 _ _ hf, by simpa using r.ex e1⟩
  · obtain ⟨_, _, e, _⟩ := p
    exact st_of (e _ _ hx)
  · obtain ⟨d, hd, rd⟩ := hr.get hv
    rw [List.getElem?_map, Option.map_eq_some_iff] at hd
    obtain ⟨x, hx', rfl⟩ := hd
    have e' : Ex H0 H' := by obtain ⟨_, _, e, _⟩ := p; exact e
    have := hs i x v σ' H' hx' (rd.ex e') p
    rw [List.append_assoc, show (b.take i).flatMap f ++ f x = (b.take (i + 1)).flatMap f by rw [take_succ_of hx']; simp] at this
    exact this
  · rw [hl, List.take_length] at p
    exact hd σ' H' p
theorem q_accT {α : Type} {b : List α} {g : α → Da} {f : α → List Da} {SI : Addr → L2.St → Prop} {j : Nat} {l0 : List Da} (h : Ev tl σ H (.ref a)) (hx : H0 a = some (.tup vs)) (hr : Reps K H0 vs (b.map g)) (h0 : Acc K H0 SI l0 σ H)
    (hs : ∀ (i : Nat) (x : α) (v : V) σ' H', b[i]? = some x → Rep K H' v (g x) → Acc K H0 SI (l0 ++ (b.take i).flatMap f) σ' H' → tu { D with nx := Acc K H0 SI (l0 ++ (b.take i).flatMap f ++ f x), ct := Acc K H0 SI (l0 ++ (b.take i).flatMap f ++ f x), bk := tz D } (σ'.set j (some v)) H')
    (hd : ∀ σ' H', Acc K H0 SI (l0 ++ b.flatMap f) σ' H' → tz D σ' H') : tSeq (tFor (iTup K tl) (gName j) tu) tz D σ H := s_accT (D := { D with nx := tz D }) h hx hr h0 hs hd
/-- over a list that the loop leaves as it is -/
theorem s_accL {α : Type} {b : List α} {g : α → Da} {f : α → List Da} {SI : Addr → L2.St → Prop} {j : Nat} {l0 : List Da} (h : EvF tl σ H (NewLR K (b.map g))) (h0 : Acc K H0 SI l0 σ H)
    (hs : ∀ (H0' : Hp) (i : Nat) (x : α) (v : V) σ' H', Ex H0 H0' → (∀ u d, Rep K H u d → Rep K H0' u d) → b[i]? = some x → Rep K H0' v (g x) → Acc K H0' SI (l0 ++ (b.take i).flatMap f) σ' H' → tu { D with nx := Acc K H0' SI (l0 ++ (b.take i).flatMap f ++ f x), ct := Acc K H0' SI (l0 ++ (b.take i).flatMap f ++ f x), bk := D.nx } (σ'.set j (some v)) H')
    (hd : ∀ σ' H', Acc K H0 SI (l0 ++ b.flatMap f) σ' H' → D.nx σ' H') : tFor (iList K tl) (gName j) tu D σ H := by
  obtain ⟨F0, us0, e0, hF0, si0, hf0, r0⟩ := h0
  refine h H (Ex.refl _) _ fun v H1 e1 ⟨p, vs, hv, hp, h1, rv⟩ => ?_
  subst hv
  -- the list walked stands beside H0
  have hpF : p ≠ F0 := fun z => by rw [z, hf0] at hp; cases hp
  have hp0 : H0 p = none := fresh_back e0 hp
  let H0' : Hp := del F0 H1
  have e01 : Ex H0 H0' := del_none hF0 (e0.trans e1)
  have e11 : Ex H0' H1 := del_ex
  have hp' : H0' p = some (.lst vs) := (del_ne hpF).trans h1
  have hl : vs.length = b.length := by rw [rv.len, List.length_map]
  have rv' : Reps K H0' vs (b.map g) := by
    refine Reps.exs (st := F0) (e1 _ _ hf0) (fun b' o hb ho => ?_) rv
    exact (del_ne hb).trans ho
  refine ⟨p, rfl, ⟨vs, sq_of h1⟩, ?_⟩
  refine for_list (xs := vs) (fun i => Acc K H0' SI (l0 ++ (b.take i).flatMap f)) ?_ (fun i σ' H' _ q => ?_) (fun i v σ' H' hv q => ?_) (fun σ' H' q => ?_)
  · exact ⟨F0, us0, e11, del_at, si0, e1 _ _ hf0, by simpa using r0.ex e1⟩
  · obtain ⟨_, _, e, _⟩ := q
    exact sq_of (e _ _ hp')
  · obtain ⟨d, hd, rd⟩ := rv'.get hv
    rw [List.getElem?_map, Option.map_eq_some_iff] at hd
    obtain ⟨x, hx', rfl⟩ := hd
    have := hs H0' i x v σ' H' e01 (fun u d r => Reps.keep8 (st := F0) (e1 _ _ hf0) (r.ex e1)) hx' rd q
    rw [List.append_assoc, show (b.take i).flatMap f ++ f x = (b.take (i + 1)).flatMap f by rw [take_succ_of hx']; simp] at this
    exact this
  · rw [hl, List.take_length] at q
    obtain ⟨F, us, e, hF, si, hf, r⟩ := q
    exact hd σ' H' ⟨F, us, e01.trans e, fresh_back e01 hF, si, hf, r⟩
/-- over a tuple made on the way -/
theorem s_accTP {α : Type} {b : List α} {g : α → Da} {f : α → List Da} {SI : Addr → L2.St → Prop} {j : Nat} {l0 : List Da} (h : EvP tl σ H (fun v H => Rep K H v (.t (b.map g)))) (h0 : Acc K H0 SI l0 σ H)
    (hs : ∀ (H0' : Hp) (i : Nat) (x : α) (v : V) σ' H', Ex H0 H0' → (∀ u d, Rep K H u d → Rep K H0' u d) → b[i]? = some x → Rep K H0' v (g x) → Acc K H0' SI (l0 ++ (b.take i).flatMap f) σ' H' → tu { D with nx := Acc K H0' SI (l0 ++ (b.take i).flatMap f ++ f x), ct := Acc K H0' SI (l0 ++ (b.take i).flatMap f ++ f x), bk := D.nx } (σ'.set j (some v)) H')
    (hd : ∀ σ' H', Acc K H0 SI (l0 ++ b.flatMap f) σ' H' → D.nx σ' H') : tFor (iTup K tl) (gName j) tu D σ H := by
  obtain ⟨F0, us0, e0, hF0, si0, hf0, r0⟩ := h0
  refine h H (Ex.refl _) _ fun v H1 e1 rv => ?_
  unfold Rep at rv
  obtain ⟨p, vs, hv, h1, rv⟩ := rv
  subst hv
  have hf1 := e1 _ _ hf0
  have hpF : p ≠ F0 := fun z => by rw [z, hf1] at h1; cases h1
  let H0' : Hp := del F0 H1
  have e01 : Ex H0 H0' := del_none hF0 (e0.trans e1)
  have e11 : Ex H0' H1 := del_ex
  have hp' : H0' p = some (.tup vs) := (del_ne hpF).trans h1
  have hl : vs.length = b.length := by rw [rv.len, List.length_map]
  have rv' : Reps K H0' vs (b.map g) := Reps.exs (st := F0) hf1 (fun b' o hb ho => (del_ne hb).trans ho) rv
  refine ⟨p, rfl, ⟨vs, st_of h1⟩, ?_⟩
  refine for_tup (xs := vs) (fun i => Acc K H0' SI (l0 ++ (b.take i).flatMap f)) ?_ (fun i σ' H' _ q => ?_) (fun i v σ' H' hv q => ?_) (fun σ' H' q => ?_)
  · exact ⟨F0, us0, e11, del_at, si0, hf1, by simpa using r0.ex e1⟩
  · obtain ⟨_, _, e, _⟩ := q
    exact st_of (e _ _ hp')
  · obtain ⟨d, hd, rd⟩ := rv'.get hv
    rw [List.getElem?_map, Option.map_eq_some_iff] at hd
    obtain ⟨x, hx', rfl⟩ := hd
    have := hs H0' i x v σ' H' e01 (fun u d r => Reps.keep8 (st := F0) (e1 _ _ hf0) (r.ex e1)) hx' rd q
    rw [List.append_assoc, show (b.take i).flatMap f ++ f x = (b.take (i + 1)).flatMap f by rw [take_succ_of hx']; simp] at this
    exact this
  · rw [hl, List.take_length] at q
    obtain ⟨F, us, e, hF, si, hf, r⟩ := q
    exact hd σ' H' ⟨F, us, e01.trans e, fresh_back e01 hF, si, hf, r⟩
/-- a datum's tail -/
theorem er_dropT {n : Nat} (h : Ev te σ H v) (r : Rep K H v (.t ds)) (hn : n ≤ ds.length) : EvP (tSl (rSlA K) te (tPart (tC (.int (n : Int)))) tNoPart) σ H (fun v H => Rep K H v (.t (ds.drop n))) := by
  unfold Rep at r
  obtain ⟨p, vs, rfl, hp, r⟩ := r
  have c : cutV vs (some (n : Int)) none = vs.drop n := by
    rw [cutV_eq, HT.sIx_none, sIx_z _ _ _ (by rw [r.len]; exact hn), List.take_length]
  have h2 := ep_slT (K := K) h (eo_some (ev_c (v := .int (n : Int)))) eo_none hp
  rw [c] at h2
  exact fun H1 e Q q => h2 H1 e _ fun v H2 e2 ⟨t, hv, ht⟩ => q v H2 e2 (by rw [hv]; exact rep_t ht ((r.drop n).ex (e.trans e2)))
theorem Acc.ex {SI : Addr → L2.St → Prop} (h : Acc K H0 SI l0 σ H) : Ex H0 H := by obtain ⟨_, _, e, _⟩ := h; exact e
end
/-! ### a def that calls itself, down to a depth -/
theorem fn_false {P : Program} {w : World} {K : PySem.W.Frag} {mg : Str → Option Value} {base : Heap} {CX : CXT} {k : Nat} {f : Addr} {fd : FuncData} {ps : List Str} {sp : Sp} (hf : ∀ vs H Q E, ¬ sp vs H Q E) : FnOk P w K mg base CX k f fd ps sp :=
  ⟨fun _ _ _ _ h => (hf _ _ _ _ h).elim, fun _ _ _ _ _ _ _ _ _ _ _ _ _ h => (hf _ _ _ _ h).elim⟩
theorem fn_chain {P : Program} {w : World} {K : PySem.W.Frag} {mg : Str → Option Value} {base : Heap} {x : Str} {k : Nat} {f : Addr} {fd : FuncData} {ps : List Str} {sp : Nat → Sp} (hm : mg x = some (.ref f)) (hk : PySem.W.keepIn K (.ref f) = true) (hb : Binds K fd ps [])
    (h0 : ∀ vs H Q E, ¬ sp 0 vs H Q E) (hs : ∀ d, Has P w K mg base x ps (k + d) (sp d) → FnOk P w K mg base CX0 (k + d + 1) f fd ps (sp (d + 1))) : ∀ d, FnOk P w K mg base CX0 (k + d) f fd ps (sp d)
  | 0 => fn_false h0
  | d + 1 => hs d ⟨⟨f, fd, hm, hk, hb, fn_chain hm hk hb h0 hs d⟩⟩
end K88

set_option maxHeartbeats 4000000
namespace K88
open PySem L2 Evl
/-! ### statements_in -/
def spStmts (K : PySem.W.Frag) (d : Nat) : Sp := fun vs H Q _ => ∃ v b, vs = [v] ∧ Rep K H v (.t (das b)) ∧ Wb d b ∧ d ≤ 4 ∧ RetLR K ((flat d b).map Stm.da) H Q
/-- the blocks of a statement -/
def Stm.blocks : Stm → List (List Stm)
  | .ite _ x y => [x, y]
  | .whl _ x _ => [x]
  | _ => []
theorem flat_blocks (d : Nat) (b : List Stm) : (flat (d + 1) b).map Stm.da = b.flatMap fun s => [s.da] ++ s.blocks.flatMap fun c => (flat d c).map Stm.da := by
  rw [flat, List.map_flatMap]
  congr 1
  funext s
  cases s <;> simp [Stm.blocks]
theorem tag_if (s : Stm) : inV (.str s.tag) [.str "if", .str "while"] = !s.blocks.isEmpty := by cases s <;> simp only [Stm.tag, Stm.blocks, List.isEmpty] <;> decide +kernel
theorem rest_blocks {d : Nat} {b : List Stm} {s : Stm} (h : Wb (d + 1) b) (hs : s ∈ b) (hb : s.blocks ≠ []) : ∃ x y ds, s.da = .t ds ∧ ds = x :: y :: s.blocks.map fun c => .t (das c) := by
  have := h.2 s hs
  cases s with
  | ite t x y => exact ⟨.s "if", t, _, by rw [Stm.da]; rfl, rfl⟩
  | whl t x p =>
    obtain ⟨rfl, _⟩ := this
    exact ⟨.s "while", t, _, by rw [Stm.da]; rfl, rfl⟩
  | _ => exact absurd rfl hb
theorem blocks_wb {d : Nat} {b : List Stm} {s : Stm} (h : Wb (d + 1) b) (hs : s ∈ b) : ∀ c, c ∈ s.blocks → Wb d c := by
  have := h.2 s hs
  intro c hc
  cases s with
  | ite t x y =>
    rcases List.mem_cons.mp hc with rfl | hc
    · exact this.1
    · rw [List.mem_singleton.mp hc]; exact this.2
  | whl t x p =>
    rw [List.mem_singleton.mp hc]; exact this.2
  | _ => cases hc
theorem blocks_two (s : Stm) : s.blocks.length ≤ 2 := by cases s <;> simp [Stm.blocks]
theorem len_take_flat {α β : Type} {f : α → List β} {b : List α} (i : Nat) : ((b.take i).flatMap f).length ≤ (b.flatMap f).length := by
  conv => rhs; rw [← List.take_append_drop i b]
  rw [List.flatMap_append, List.length_append]
  omega
section
variable {P : Program} {w : World} {K : PySem.W.Frag} {mg : Str → Option Value} {base : Heap}
theorem sc_statements_in : FnScope ["body", "found", "statement", "block"] ["body"] (defScope (topS 1)) := ⟨rfl, rfl, rfl, by decide +kernel, rfl, by decide +kernel, by decide +kernel⟩
theorem ok_statements_in {d : Nat} {f : Addr} {fd : FuncData} (F : FnP K "statements_in" "statements_in" (topS 1) f fd) (T : Bt mg) (h_statements_in : Has P w K mg base "statements_in" ["body"] (0 + d) (spStmts K d)) : FnOk P w K mg base CX0 (0 + d + 1) f fd ["body"] (spStmts K (d + 1)) := by
  refine F.ok sc_statements_in (fun vs H Q E h => ?_) (fun cdv A outer s H vs Q E hr h => ?_)
  · obtain ⟨v, b, rfl, _⟩ := h
    rfl
  · obtain ⟨v, b, rfl, hv, hw, hd4, q⟩ := h
    refine ⟨_, PSs.nox
      (pss_cons (ps_set (i := 1) sc_statements_in.nd rfl (Or.inl rfl) (pe_lst pa_nil))
      (pss_cons (ps_for PassesOwn.never rfl (pi_tupK K rfl (pv 0)) (pg_name (i := 2) sc_statements_in.nd rfl (Or.inl rfl)) (pss_cons (ps_expr (pe_bm PySem.F.plainAttrs_list PySem.F.slot_list_append PySem.F.type_list_append mt_append (pv 1) (pa_cons (pv 2) pa_nil)))
      (pss_one (ps_if (pt_cmpR op_in_seq (pe_ix (ix_tupK K rfl) (pv 2) pe_int (fun _ _ => rfl)) (pe_tup (pa_cons pe_str (pa_cons pe_str pa_nil))) rfl) (pss_one (ps_for PassesOwn.never rfl (pi_tupK K rfl (pe_slice (sl_tupAK K rfl) (pv 2) (po_some pe_int) po_none)) (pg_name (i := 3) sc_statements_in.nd rfl (Or.inl rfl)) (pss_one (ps_expr (pe_bm PySem.F.plainAttrs_list PySem.F.slot_list_extend PySem.F.type_list_extend mt_extend (pv 1) (pa_cons (pe_callH h_statements_in (hr.mono (by omega)) (by rfl) (pa_cons (pv 3) pa_nil)) pa_nil)))))) pss_nil))))
      (pss_one (ps_ret (pv 1))))), ?_⟩
    unfold Rep at hv
    obtain ⟨a, vs, rfl, ha, hr2⟩ := hv
    rw [das_map] at hr2
    have hfl := flat_len (d + 1) b hw
    have hcap := fcap_le hd4
    have hcap2 := fcap_le (d := d) (by omega)
    refine q_asgR (ef_nil K) fun F us0 H1 hF e1 h1 r1 => ?_
    refine q_accT (b := b) (g := Stm.da) (f := fun s => [s.da] ++ s.blocks.flatMap fun c => (flat d c).map Stm.da) (l0 := []) (H0 := H) (SI := fun F σ => ∃ x y, σ = [some (.ref a), some (.ref F), x, y]) (ev_var rfl) ha hr2 ⟨F, us0, e1, hF, ⟨_, _, rfl⟩, h1, r1⟩ ?_ ?_
    · rintro i st v σ' H' hb hv' ⟨F, us, e, hF, ⟨x, y, rfl⟩, hf, r⟩
      have hmem := List.mem_of_getElem? hb
      have hz : (([] : List Da) ++ (b.take i).flatMap fun s => [s.da] ++ s.blocks.flatMap fun c => (flat d c).map Stm.da).length ≤ 2340 := by
        rw [List.nil_append]
        refine Nat.le_trans (len_take_flat i) ?_
        rw [← flat_blocks, List.length_map]
        omega
      generalize (([] : List Da) ++ (b.take i).flatMap fun s => [s.da] ++ s.blocks.flatMap fun c => (flat d c).map Stm.da) = l0 at hz r ⊢
      refine q_appR hf r (by omega) (ev_var rfl) (ep_R (ev_var rfl) hv') fun H2 us2 x2 hf2 r2 => ?_
      have hv2 := hv'.exs hf x2
      have e2 : Ex H H2 := exs_base hF e x2
      refine s_when (et_test (ev_inU (ev_tag (ev_var rfl) hv2) (eu_tup (ea_cons ev_c (ea_cons ev_c ea_nil)) (by simp)) rfl rfl)) (fun hB H3 e3 => ?_) (fun hB H3 e3 => ?_)
      · rw [tag_if] at hB
        have hne : st.blocks ≠ [] := fun z => by rw [z] at hB; cases hB
        obtain ⟨p1, p2, ds, ed, eds⟩ := rest_blocks hw hmem hne
        have hv3 := hv2.ex e3
        rw [ed] at hv3
        have hsl : EvP _ _ H3 _ := er_dropT (n := 2) (ev_var (σ := [some (V.ref a), some (V.ref F), some v, y]) (i := 2) rfl) hv3 (by rw [eds]; simp)
        rw [show ds.drop 2 = st.blocks.map fun c => .t (das c) by rw [eds]; rfl] at hsl
        refine s_accTP (b := st.blocks) (g := fun c => .t (das c)) (f := fun c => (flat d c).map Stm.da) (l0 := l0 ++ [st.da]) (H0 := H) (SI := fun F σ => ∃ x y, σ = [some (.ref a), some (.ref F), x, y]) hsl ⟨F, us2, e2.trans e3, hF, ⟨_, _, rfl⟩, e3 _ _ hf2, r2.ex e3⟩ ?_ ?_
        · rintro H0' i' c v' σ' H' e0 _ hc hvc ⟨F', us', e', hF', ⟨x', y', rfl⟩, hf', r'⟩
          have hcm := List.mem_of_getElem? hc
          have hwc := blocks_wb hw hmem c hcm
          have hlc := flat_len d c hwc
          have h2b := blocks_two st
          have hz2 : ((st.blocks.take i').flatMap fun c => (flat d c).map Stm.da).length ≤ 2 * 2340 := by
            refine Nat.le_trans (flatMap_len _ 2340 _ fun c hc => ?_) (Nat.mul_le_mul_right _ (Nat.le_trans (List.length_take_le' ..) h2b))
            rw [List.length_map]
            exact Nat.le_trans (flat_len d c (blocks_wb hw hmem c (List.mem_of_mem_take hc))) hcap2
          refine s_extR hf' r' (by simp only [List.length_append, List.length_map, List.length_singleton]; omega) (ev_var rfl) (ep_LR (ef_callR (ea_cons (ev_var rfl) ea_nil) fun H5 e5 Q' hQ E' => ⟨v', c, rfl, hvc.ex (e'.trans e5), hwc, by omega, hQ⟩)) fun H5 us5 x5 hf5 r5 => ?_
          exact ⟨F', us5, exs_base hF' e' x5, hF', ⟨_, _, rfl⟩, hf5, r5⟩
        · rintro σ4 H4 p4
          rw [List.append_assoc] at p4
          exact p4
      · rw [tag_if] at hB
        have hne : st.blocks = [] := by simpa using hB
        refine ⟨F, us2, e2.trans e3, hF, ⟨_, _, rfl⟩, e3 _ _ hf2, ?_⟩
        rw [hne]
        exact r2.ex e3
    · rintro σ' H' ⟨F, us, e, hF, ⟨x, y, rfl⟩, hf, r⟩
      refine s_ret (ev_var rfl) fun H3 e3 => q F us H3 hF (e.trans e3) (e3 _ _ hf) ?_
      rw [flat_blocks]
      simpa using r.ex e3
end
end K88

set_option maxHeartbeats 4000000
namespace K88
open PySem L2 Evl
/-! ### comprehensions over data -/
section
variable {K : PySem.W.Frag} {σ : L2.St} {H H' H0 : Hp} {ta tb te tl : TE} {x y z v : V} {P P' : V → Hp → Prop} {tt : TT} {wi : TI} {J : It} {G : Hp → Prop} {Y : Nat → Hp → V → Hp → Prop} {tg : TG} {vs : List Nat} {α β : Type} {b : List α} {a : Addr}
theorem filter_take_succ {f : α → Bool} {i : Nat} {x : α} (h : b[i]? = some x) : (b.take (i + 1)).filter f = (b.take i).filter f ++ (if f x = true then [x] else []) := by
  rw [take_succ_of h, List.filter_append]
  by_cases hf : f x = true
  · rw [if_pos hf]; simp [hf]
  · rw [if_neg hf]; simp [hf]
theorem ef_lcW {f : α → Bool} {e : α → Da} (hz : b.length ≤ 100000) (hw : EvI wi σ H J) (w : Walk J b.length G Y) (hG : ∀ H1, Ex H H1 → G H1)
    (ht : ∀ (i : Nat) (x : α) (v : V) (Ha Hb : Hp), b[i]? = some x → Ex H Ha → Y i Ha v Hb → Ex Ha Hb ∧ ∃ σ', Tgt tg v (wipe σ vs) Hb σ' ∧ wipe σ' vs = wipe σ vs ∧ EvT tt σ' Hb (f x) ∧ (f x = true → EvP te σ' Hb (fun v H => Rep K H v (e x)))) :
    EvF (tLc wi tg tt te vs) σ H (NewLR K ((b.filter f).map e)) := fun H0 e0 Q q =>
  hw.go H0 e0 _ fun H1 e1 D hD => by
    refine lc_it (G := G) w (fun i H' => Ex H1 H' ∧ ∃ out : List V, H' D = some (.lst out) ∧ Reps K H' out (((b.take i).filter f).map e)) ?_ ?_ ?_ ?_
    · exact ⟨Ex.new hD, [], upd_same, by simpa using Reps.nil_⟩
    · rintro i H' hi ⟨e2, _⟩
      exact hG H' ((e0.trans e1).trans e2)
    · rintro i v Ha Hb hi ⟨e2, out, hL, hr⟩ y
      obtain ⟨x, hx⟩ : ∃ x, b[i]? = some x := ⟨_, List.getElem?_eq_getElem hi⟩
      obtain ⟨e3, σ', tg', hwp, hev, hte⟩ := ht i x v Ha Hb hx ((e0.trans e1).trans e2) y
      refine tg' _ ⟨hwp, ?_⟩
      refine hev Hb (Ex.refl _) _ fun H3 e33 => ?_
      have hlen : (((b.take i).filter f).map e).length ≤ 100000 - 1 := by
        rw [List.length_map]
        have h1 := List.length_filter_le f (b.take i)
        have h2 := List.length_take_le' i b
        have h3 : (b.take i).length ≤ i := List.length_take_le ..
        omega
      rw [filter_take_succ hx, List.map_append]
      cases hf : f x with
      | true =>
        refine hte hf H3 e33 _ fun v4 H4 e4 r4 => ?_
        refine ⟨out, e4 _ _ (e33 _ _ (e3 _ _ hL)), sz_lt (by rw [hr.len]; omega), Ex.mut (((e2.trans e3).trans e33).trans e4) hD, out ++ [v4], upd_same, ?_⟩
        rw [if_pos rfl]
        exact (Reps.append (hr.ex ((e3.trans e33).trans e4)) (Reps.cons_ r4 Reps.nil_)).exs (e4 _ _ (e33 _ _ (e3 _ _ hL))) exs_upd
      | false =>
        refine ⟨(e2.trans e3).trans e33, out, e33 _ _ (e3 _ _ hL), ?_⟩
        rw [if_neg (by decide)]
        simpa using hr.ex (e3.trans e33)
    · rintro H' ⟨e2, out, hL, hr⟩
      rw [List.take_length] at hr
      exact q _ H' (e1.trans e2) ⟨D, out, rfl, fresh_back e1 hD, hL, hr⟩
/-- over a tuple at a -/
theorem ef_lcT {f : α → Bool} {e g0 : α → Da} {us : List V} (h : Ev tl σ H (.ref a)) (hx : H a = some (.tup us)) (hr : Reps K H us (b.map g0)) (hz : b.length ≤ 100000)
    (ht : ∀ (i : Nat) (x : α) (v : V) (Hb : Hp), b[i]? = some x → Ex H Hb → Rep K Hb v (g0 x) → ∃ σ', Tgt tg v (wipe σ vs) Hb σ' ∧ wipe σ' vs = wipe σ vs ∧ EvT tt σ' Hb (f x) ∧ (f x = true → EvP te σ' Hb (fun v H => Rep K H v (e x)))) :
    EvF (tLc (iTup K tl) tg tt te vs) σ H (NewLR K ((b.filter f).map e)) := by
  have hl : us.length = b.length := by rw [hr.len, List.length_map]
  refine ef_lcW hz (ei_tup h hx) (hl ▸ walk_tup (xs := us)) (fun H1 e => st_of (e _ _ hx)) fun i x v Ha Hb hb ea y => ?_
  obtain ⟨hy, hu⟩ := y
  subst hy
  obtain ⟨d, hd, rd⟩ := hr.get hu
  rw [List.getElem?_map, hb] at hd
  cases hd
  exact ⟨Ex.refl _, ht i x v _ hb ea (rd.ex ea)⟩
/-- over a list -/
theorem ef_lcL {f : α → Bool} {e g0 : α → Da} {us : List V} (h : Ev tl σ H (.ref a)) (hx : H a = some (.lst us)) (hr : Reps K H us (b.map g0)) (hz : b.length ≤ 100000)
    (ht : ∀ (i : Nat) (x : α) (v : V) (Hb : Hp), b[i]? = some x → Ex H Hb → Rep K Hb v (g0 x) → ∃ σ', Tgt tg v (wipe σ vs) Hb σ' ∧ wipe σ' vs = wipe σ vs ∧ EvT tt σ' Hb (f x) ∧ (f x = true → EvP te σ' Hb (fun v H => Rep K H v (e x)))) :
    EvF (tLc (iList K tl) tg tt te vs) σ H (NewLR K ((b.filter f).map e)) := by
  have hl : us.length = b.length := by rw [hr.len, List.length_map]
  refine ef_lcW hz (ei_list h hx) (hl ▸ walk_list (xs := us)) (fun H1 e => sq_of (e _ _ hx)) fun i x v Ha Hb hb ea y => ?_
  obtain ⟨hy, hu⟩ := y
  subst hy
  obtain ⟨d, hd, rd⟩ := hr.get hu
  rw [List.getElem?_map, hb] at hd
  cases hd
  exact ⟨Ex.refl _, ht i x v _ hb ea (rd.ex ea)⟩
/-- over a new list, a new tuple -/
theorem ef_lcN {f : α → Bool} {e g0 : α → Da} (h : EvP tl σ H (IsLR K (b.map g0))) (hz : b.length ≤ 100000)
    (ht : ∀ (i : Nat) (x : α) (v : V) (Hb : Hp), b[i]? = some x → Ex H Hb → Rep K Hb v (g0 x) → ∃ σ', Tgt tg v (wipe σ vs) Hb σ' ∧ wipe σ' vs = wipe σ vs ∧ EvT tt σ' Hb (f x) ∧ (f x = true → EvP te σ' Hb (fun v H => Rep K H v (e x)))) :
    EvF (tLc (iList K tl) tg tt te vs) σ H (NewLR K ((b.filter f).map e)) := fun H0 e0 Q q =>
  h H0 e0 _ fun v H1 e1 ⟨p, us, hv, hp, hr⟩ => by
    subst hv
    refine ⟨p, rfl, ⟨us, sq_of hp⟩, ?_⟩
    have hE : EvF (tLc (iList K (tC (.ref p))) tg tt te vs) σ H1 (NewLR K ((b.filter f).map e)) := ef_lcL ev_c hp hr hz fun i x v Hb hb eb r => ht i x v Hb hb ((e0.trans e1).trans eb) r
    obtain ⟨a', ea, _, r⟩ := hE H1 (Ex.refl _) Q fun v2 H2 e2 ⟨p2, us2, h1, h2, h3⟩ => q v2 H2 (e1.trans e2) ⟨p2, us2, h1, fresh_back e1 h2, h3⟩
    cases ea
    exact r
theorem ef_lcNT {f : α → Bool} {e g0 : α → Da} (h : EvP tl σ H (fun v H => Rep K H v (.t (b.map g0)))) (hz : b.length ≤ 100000)
    (ht : ∀ (i : Nat) (x : α) (v : V) (Hb : Hp), b[i]? = some x → Ex H Hb → Rep K Hb v (g0 x) → ∃ σ', Tgt tg v (wipe σ vs) Hb σ' ∧ wipe σ' vs = wipe σ vs ∧ EvT tt σ' Hb (f x) ∧ (f x = true → EvP te σ' Hb (fun v H => Rep K H v (e x)))) :
    EvF (tLc (iTup K tl) tg tt te vs) σ H (NewLR K ((b.filter f).map e)) := fun H0 e0 Q q =>
  h H0 e0 _ fun v H1 e1 r1 => by
    unfold Rep at r1
    obtain ⟨p, us, hv, hp, hr⟩ := r1
    subst hv
    refine ⟨p, rfl, ⟨us, st_of hp⟩, ?_⟩
    have hE : EvF (tLc (iTup K (tC (.ref p))) tg tt te vs) σ H1 (NewLR K ((b.filter f).map e)) := ef_lcT ev_c hp hr hz fun i x v Hb hb eb r => ht i x v Hb hb ((e0.trans e1).trans eb) r
    obtain ⟨a', ea, _, r⟩ := hE H1 (Ex.refl _) Q fun v2 H2 e2 ⟨p2, us2, h1, h2, h3⟩ => q v2 H2 (e1.trans e2) ⟨p2, us2, h1, fresh_back e1 h2, h3⟩
    cases ea
    exact r
theorem et_yes : EvT tYes σ H true := fun H1 _ Q q => q H1 (Ex.refl _)
theorem filter_true : ∀ b : List α, b.filter (fun _ => true) = b
  | [] => rfl
  | x :: b => by rw [List.filter_cons, if_pos rfl, filter_true b]
/-- an item of a new list -/
theorem ev_ixN {i : Nat} {ds : List Da} {d : Da} (h : EvP te σ H (IsLR K ds)) (hd : ds[i]? = some d) : EvP (tOp (rIxL K) te (tC (.int (i : Int)))) σ H (fun v H => Rep K H v d) := fun H1 e Q q =>
  h H1 e _ fun v H2 e2 ⟨p, us, hv, hp, r⟩ => by
    obtain ⟨w, hw, rw'⟩ := r.at_ hd
    exact ⟨p, us, (i : Int), w, hv, rfl, sq_of hp, atI_nat hw, q w H2 e2 rw'⟩
theorem tgt_name' {i : Nat} {x : V} {σ : L2.St} {Hb : Hp} : ∃ σ', Tgt (gName i) x σ Hb σ' ∧ σ' = σ.set i (some x) := ⟨_, tgt_name, rfl⟩
/-- a pair's parts -/
theorem rep_two {d1 d2 : Da} (h : Rep K H v (.t [d1, d2])) : ∃ t v1 v2, v = .ref t ∧ H t = some (.tup [v1, v2]) ∧ Rep K H v1 d1 ∧ Rep K H v2 d2 := by
  unfold Rep at h
  obtain ⟨t, us, rfl, ht, r⟩ := h
  unfold Reps at r
  obtain ⟨v1, r1, rfl, h1, r⟩ := r
  unfold Reps at r
  obtain ⟨v2, r2, rfl, h2, r⟩ := r
  unfold Reps at r
  subst r
  exact ⟨t, v1, v2, rfl, ht, h1, h2⟩
theorem rep_str {x : Str} (h : Rep K H v (.s x)) : v = .str x := by unfold Rep at h; exact h
theorem rep_intv {n : Int} (h : Rep K H v (.i n)) : v = .int n := by unfold Rep at h; exact h
theorem reps_strs : ∀ {us : List V} {xs : List Str}, Reps K H us (xs.map Da.s) → us = xs.map V.str
  | us, [], h => by
    have h2 : Reps K H us [] := h
    unfold Reps at h2
    exact h2
  | us, x :: xs, h => by
    have h2 : Reps K H us (.s x :: xs.map Da.s) := h
    unfold Reps at h2
    obtain ⟨v, r, rfl, h1, h2⟩ := h2
    rw [rep_str h1, reps_strs h2]
    rfl
theorem strs_reps : ∀ {xs : List Str}, Reps K H (xs.map V.str) (xs.map Da.s)
  | [] => Reps.nil_
  | x :: xs => Reps.cons_ (by unfold Rep; rfl) strs_reps
/-- a text in a list of texts -/
theorem flat_strs (xs : List Str) : (xs.map V.str).all flatV = true := by
  induction xs with
  | nil => rfl
  | cons x xs ih => rw [List.map_cons, List.all_cons, ih]; rfl
theorem inV_strs (x : Str) : ∀ xs : List Str, inV (.str x) (xs.map V.str) = decide (x ∈ xs)
  | [] => by simp [inV]
  | y :: xs => by
    have h1 : inV (.str x) ((y :: xs).map V.str) = (eqV (.str y) (.str x) || inV (.str x) (xs.map V.str)) := rfl
    have h2 : eqV (.str y) (.str x) = decide (y = x) := by
      show (y == x) = decide (y = x)
      by_cases e : y = x
      · subst e; simp
      · rw [decide_eq_false e]; exact beq_eq_false_iff_ne.mpr e
    rw [h1, h2, inV_strs x xs, ← Bool.decide_or]
    refine decide_eq_decide.mpr ?_
    rw [List.mem_cons]
    exact ⟨fun h => h.imp Eq.symm id, fun h => h.imp Eq.symm id⟩
theorem ev_inStrs {neg : Bool} {x : Str} {xs : List Str} (h : Ev ta σ H (.str x)) (hb : EvP tb σ H (IsLR K (xs.map Da.s))) : Ev (tOp (rIn K neg) ta tb) σ H (.bl (if neg then !decide (x ∈ xs) else decide (x ∈ xs))) :=
  ev_opP h hb fun y H1 e ⟨p, us, hy, hp, r⟩ => by
    subst hy
    have := reps_strs r
    subst this
    have h2 := rv_inL (K := K) (neg := neg) (x := .str x) (sq_of (K := K) hp) rfl (flat_strs xs)
    rw [inV_strs] at h2
    exact h2
theorem ev_inStrsT {neg : Bool} {x : Str} {xs : List Str} (h : Ev ta σ H (.str x)) (hb : EvP tb σ H (fun v H => Rep K H v (.t (xs.map Da.s)))) : Ev (tOp (rIn K neg) ta tb) σ H (.bl (if neg then !decide (x ∈ xs) else decide (x ∈ xs))) :=
  ev_opP h hb fun y H1 e r => by
    unfold Rep at r
    obtain ⟨p, us, hy, hp, r⟩ := r
    subst hy
    have := reps_strs r
    subst this
    have h2 := rv_inT (K := K) (neg := neg) (x := .str x) (st_of (K := K) hp) rfl (flat_strs xs)
    rw [inV_strs] at h2
    exact h2
/-- texts put together -/
theorem ev_cat {x y : Str} (h : Ev ta σ H (.str x)) (h' : Ev tb σ H (.str y)) (hz : x.length + y.length ≤ 100000) : Ev (tOp (fun x y H Q => ∃ i j, x = V.str i ∧ y = V.str j ∧ i.length + j.length ≤ sizeLine ∧ Q (V.str (i ++ j)) H) ta tb) σ H (.str (x ++ y)) :=
  ev_op h h' fun H1 e Q q => ⟨x, y, rfl, rfl, sz_of hz, q H1 (Ex.refl _)⟩
theorem ef_callRA {sp : Sp} {ta : TA} {PA : List V → Hp → Prop} {E : XK} {ds : List Da} (h : EvAP ta σ H PA) (hs : ∀ vs H1, Ex H H1 → PA vs H1 → ∀ Q : VK, RetLR K ds H1 Q → ∀ E : XK, sp vs H1 Q E) : EvF (tCall sp [] E ta) σ H (NewLR K ds) := fun H1 e Q q =>
  h H1 e _ fun vs H2 e2 p => by
    show sp (vs ++ []) H2 Q E
    rw [List.append_nil]
    exact hs vs H2 (e.trans e2) p Q (fun p us H3 hp e3 h3 r3 => q _ H3 (e2.trans e3) ⟨p, us, rfl, fresh_back e2 hp, h3, r3⟩) E
theorem reps_one {us : List V} {d : Da} (r : Reps K H us [d]) : ∃ v, us = [v] ∧ Rep K H v d := by
  unfold Reps at r
  obtain ⟨v, r1, rfl, h1, r⟩ := r
  unfold Reps at r
  subst r
  exact ⟨v, rfl, h1⟩
theorem reps_two {us : List V} {d1 d2 : Da} (r : Reps K H us [d1, d2]) : ∃ v1 v2, us = [v1, v2] ∧ Rep K H v1 d1 ∧ Rep K H v2 d2 := by
  unfold Reps at r
  obtain ⟨v, r1, rfl, h1, r⟩ := r
  obtain ⟨v2, rfl, h2⟩ := reps_one r
  exact ⟨v, v2, rfl, h1, h2⟩
theorem reps_three {us : List V} {d1 d2 d3 : Da} (r : Reps K H us [d1, d2, d3]) : ∃ v1 v2 v3, us = [v1, v2, v3] ∧ Rep K H v1 d1 ∧ Rep K H v2 d2 ∧ Rep K H v3 d3 := by
  unfold Reps at r
  obtain ⟨v, r1, rfl, h1, r⟩ := r
  obtain ⟨v2, v3, rfl, h2, h3⟩ := reps_two r
  exact ⟨v, v2, v3, rfl, h1, h2, h3⟩
/-! loops of other shapes that fill a list -/
theorem s_accZP {b2 : List β} {g1 : α → Da} {g2 : β → Da} {f : α × β → List Da} {SI : Addr → L2.St → Prop} {j k : Nat} {l0 : List Da} {D : Ends} {tu : TS} {t : TA} (h : EvAP t σ H (fun vs H => Reps K H vs [.t (b.map g1), .t (b2.map g2)])) (h0 : Acc K H0 SI l0 σ H)
    (hs : ∀ (H0' : Hp) (i : Nat) (x : α × β) (v w : V) σ' H', Ex H0 H0' → (∀ u d, Rep K H u d → Rep K H0' u d) → (b.zip b2)[i]? = some x → Rep K H0' v (g1 x.1) → Rep K H0' w (g2 x.2) → Acc K H0' SI (l0 ++ ((b.zip b2).take i).flatMap f) σ' H' → tu { D with nx := Acc K H0' SI (l0 ++ ((b.zip b2).take i).flatMap f ++ f x), ct := Acc K H0' SI (l0 ++ ((b.zip b2).take i).flatMap f ++ f x), bk := D.nx } ((σ'.set j (some v)).set k (some w)) H')
    (hd : ∀ σ' H', Acc K H0 SI (l0 ++ (b.zip b2).flatMap f) σ' H' → D.nx σ' H') : tFor (RZ.iZipA K t) (gTup K 2 (gCons (gName j) (gCons (gName k) gNil))) tu D σ H := by
  obtain ⟨F0, us0, e0, hF0, si0, hf0, r0⟩ := h0
  refine h H (Ex.refl _) _ fun vs H1 e1 rv => ?_
  obtain ⟨v1, v2, rfl, q1, q2⟩ := reps_two rv
  unfold Rep at q1 q2
  obtain ⟨p1, us1, rfl, h1, q1⟩ := q1
  obtain ⟨p2, us2, rfl, h2, q2⟩ := q2
  have hf1 := e1 _ _ hf0
  have hpF1 : p1 ≠ F0 := fun z => by rw [z, hf1] at h1; cases h1
  have hpF2 : p2 ≠ F0 := fun z => by rw [z, hf1] at h2; cases h2
  let H0' : Hp := del F0 H1
  have e01 : Ex H0 H0' := del_none hF0 (e0.trans e1)
  have e11 : Ex H0' H1 := del_ex
  have hp1 : H0' p1 = some (.tup us1) := (del_ne hpF1).trans h1
  have hp2 : H0' p2 = some (.tup us2) := (del_ne hpF2).trans h2
  have hl1 : us1.length = b.length := by rw [q1.len, List.length_map]
  have hl2 : us2.length = b2.length := by rw [q2.len, List.length_map]
  have back : ∀ b' o, b' ≠ F0 → H1 b' = some o → H0' b' = some o := fun b' o hb ho => (del_ne hb).trans ho
  have q1' : Reps K H0' us1 (b.map g1) := Reps.exs (st := F0) hf1 back q1
  have q2' : Reps K H0' us2 (b2.map g2) := Reps.exs (st := F0) hf1 back q2
  refine ⟨p1, p2, us1, us2, rfl, .inr ⟨st_of h1, st_of h2, ?_⟩⟩
  refine for_it (walk_zipT (xs := us1) (ys := us2) (n := (b.zip b2).length) (by rw [List.length_zip, hl1, hl2])) (fun i => Acc K H0' SI (l0 ++ ((b.zip b2).take i).flatMap f)) ?_ (fun i σ' H' _ q => ?_) (fun i v σ' Ha Hb hi q y => ?_) (fun σ' H' q => ?_)
  · exact ⟨F0, us0, e11, del_at, si0, hf1, by simpa using r0.ex e1⟩
  · obtain ⟨_, _, e, _⟩ := q
    exact ⟨st_of (e _ _ hp1), st_of (e _ _ hp2)⟩
  · obtain ⟨T, x, y, rfl, hT, rfl, hx, hy⟩ := y
    obtain ⟨z, hz⟩ : ∃ z, (b.zip b2)[i]? = some z := ⟨_, List.getElem?_eq_getElem hi⟩
    have hz' := List.getElem?_zip_eq_some.mp hz
    obtain ⟨d1, hd1, rd1⟩ := q1'.get hx
    obtain ⟨d2, hd2, rd2⟩ := q2'.get hy
    rw [List.getElem?_map, hz'.1] at hd1
    rw [List.getElem?_map, hz'.2] at hd2
    cases hd1
    cases hd2
    have eT : Ex Ha (upd Ha T (.tup [x, y])) := Ex.new hT
    have e' : Ex H0' Ha := by obtain ⟨_, _, e, _⟩ := q; exact e
    have q' : Acc K H0' SI (l0 ++ ((b.zip b2).take i).flatMap f) σ' (upd Ha T (.tup [x, y])) := by
      obtain ⟨F, us, e, hF, si, hf, r⟩ := q
      exact ⟨F, us, e.trans eT, hF, si, eT _ _ hf, r.ex eT⟩
    have := hs H0' i z x y σ' _ e01 (fun u d r => Reps.keep8 (st := F0) hf1 (r.ex e1)) hz rd1 rd2 q'
    rw [List.append_assoc, show ((b.zip b2).take i).flatMap f ++ f z = ((b.zip b2).take (i + 1)).flatMap f by rw [take_succ_of hz]; simp] at this
    exact tgt_pair upd_same _ this
  · rw [List.take_length] at q
    obtain ⟨F, us, e, hF, si, hf, r⟩ := q
    exact hd σ' H' ⟨F, us, e01.trans e, fresh_back e01 hF, si, hf, r⟩
/-- an item of what a call gives -/
theorem ep_call3 {sp : Sp} {t : TA} {PA : List V → Hp → Prop} {E : XK} {D : Da} {r : R2} {P3 : V → Hp → Prop} {c : V} (h : EvAP t σ H PA) (hs : ∀ vs H1, Ex H H1 → PA vs H1 → ∀ Q : VK, RetP (fun v H => Rep K H v D) H1 Q → ∀ E : XK, sp vs H1 Q E)
    (hk : ∀ v H1, Ex H H1 → Rep K H1 v D → EvP (tOp r (tC v) (tC c)) σ H1 P3) : EvP (tOp r (tCall sp [] E t) (tC c)) σ H P3 := fun H1 e Q q =>
  h H1 e _ fun vs H2 e2 p => by
    show sp (vs ++ []) H2 _ E
    rw [List.append_nil]
    exact hs vs H2 (e.trans e2) p _ (fun v H3 e3 r3 => hk v H3 ((e.trans e2).trans e3) r3 H3 (Ex.refl _) Q fun v4 H4 e4 p4 => q v4 H4 ((e2.trans e3).trans e4) p4) E
theorem op_in_seqK {X : Cx} (K : PySem.W.Frag) (hK : X.K = K) : OpR X (compareOp .In) (rIn K false) := hK ▸ op_in_seq
theorem op_notIn_seqK {X : Cx} (K : PySem.W.Frag) (hK : X.K = K) : OpR X (compareOp .NotIn) (rIn K true) := hK ▸ op_notIn_seq
end
end K88

set_option maxHeartbeats 4000000
namespace K88
open PySem PySem.Spec PyProof.Rows L2 Evl
open AutoSeq1 (wpAny_loadPart')
/-! ### enumerate(tuple) -/
theorem meets_enumT (l : Addr) (items : Array Value) (n : Nat) (dct : Option Addr) (sl : Array (Option Value)) :
    Meets (Builtin.«enumerate.__new__» ⟨[.type "enumerate", .ref l], []⟩) (fun _ R s => s.heap.get? l = some { cls := .type "tuple", dict := dct, data := .seq items n, slots := sl } ∧
      R (.ok (.ret (.ref (s.heap.push { cls := .type "tuple_iterator", data := .fields #[.ref l, .int 0 0] }).objs.size)))
        { s with heap := (s.heap.push { cls := .type "tuple_iterator", data := .fields #[.ref l, .int 0 0] }).push { cls := .type "enumerate", data := .fields #[.none, .bool false, .ref s.heap.objs.size, rawInt 0, .none, .none] } }) :=
  .of_wp fun prog w A R s h => by
    obtain ⟨hp, g, d, tk, os⟩ := s
    obtain ⟨hl, h⟩ := h
    have hsub := sub_enumerate
    have hL : Heap.IsTuple (Shared.heap ⟨hp, g, d, tk, os⟩) l items := ⟨_, hl, rfl, n, rfl⟩
    wp_walk using wpAny_loadPart' hl
    refine wpAny_stack_any fun st => wpAny_pure ?_
    split
    · rename_i c _ _ _ _ _
      cases (c == Value.type "enumerate")
      · wp_walk using wpAny_loadPart' hl, wpAny_pyIter_tuple hL
        exact ⟨_, rfl, h⟩
      · wp_walk using wpAny_loadPart' hl, wpAny_pyIter_tuple hL
        exact ⟨_, rfl, h⟩
    · wp_walk using wpAny_loadPart' hl, wpAny_pyIter_tuple hL
      exact ⟨_, rfl, h⟩
section
variable {prog : Program} {w : World} {A : Around} {E : Value → Shared → Prop} {s : Shared}
theorem call_enumT {l : Addr} {items : Array Value} {Q : Value → Shared → Prop} (hL : s.heap.IsTuple l items)
    (h : ∀ h', IsEnum h' (s.heap.objs.size + 1) s.heap.objs.size 0 .none → h'.IsTupleIter s.heap.objs.size l 0 → (∀ b o, s.heap.get? b = some o → h'.get? b = some o) → Q (.ref (s.heap.objs.size + 1)) { s with heap := h' }) :
    wpAny (model prog w) A (call (.type "enumerate") [.ref l]) Q E s := by
  obtain ⟨⟨c, dct, dt, sl⟩, hl, hc, n, hd⟩ := hL
  replace hc : c = .type "tuple" := hc
  replace hd : dt = .seq items n := hd
  subst hc hd
  refine callType_new F.called_enumerate (by decide) (F.typeCall_enumerate_1 _) (F.newCall_enumerate_1 _) (fun obj => F.args_object_init_2 obj _) F.entry_enumerate_new
    (meets_enumT l items n dct sl) ⟨hl, ?_⟩
  have hz : (s.heap.push { cls := .type "tuple_iterator", data := .fields #[.ref l, .int 0 0] }).objs.size = s.heap.objs.size + 1 := Heap.size_push ..
  show _ ∧ _
  rw [hz]
  have he : IsEnum ((s.heap.push { cls := .type "tuple_iterator", data := .fields #[.ref l, .int 0 0] }).push
      { cls := .type "enumerate", data := .fields #[.none, .bool false, .ref s.heap.objs.size, rawInt 0, .none, .none] }) (s.heap.objs.size + 1) s.heap.objs.size 0 .none := by
    have := Heap.get?_push_size (s.heap.push { cls := .type "tuple_iterator", data := .fields #[.ref l, .int 0 0] })
      (o := { cls := .type "enumerate", data := .fields #[.none, .bool false, .ref s.heap.objs.size, rawInt 0, .none, .none] }) rfl
    rw [hz] at this; exact this
  exact ⟨⟨_, he, rfl⟩, h _ he ⟨_, Heap.get?_push_of_some _ (Heap.get?_push_size _ rfl), rfl, rfl⟩ fun b o x => Heap.get?_push_of_some _ (Heap.get?_push_of_some _ x)⟩
end
def IteT (K : PySem.W.Frag) (a : Addr) : It :=
  ⟨fun i H => ∃ (xs : List V) (x : V), SqT K H a xs ∧ xs[i]? = some x, fun i H v H' => ∃ T x, v = .ref T ∧ H T = none ∧ H' = upd H T (.tup [.int (i : Nat), x]) ∧ ∀ xs, SqT K H a xs → xs[i]? = some x, fun i H => ∃ xs : List V, SqT K H a xs ∧ xs.length = i⟩
theorem tup_apart {h : Heap} {a b : Addr} {items : Array Value} {o : Obj} {n : String} (ht : h.IsTuple a items) (ho : h.get? b = some o) (hc : o.cls = .type n) (hn : n ≠ "tuple") : a ≠ b := fun e => by
  obtain ⟨o', h1, h2, _⟩ := ht
  rw [e, ho] at h1
  cases h1
  rw [hc] at h2
  cases h2
  exact hn rfl
theorem turn_enumT {P : Program} {w : World} {K : PySem.W.Frag} {elts : List Expr} {kk : Nat} {tpos : Pos} (a e it : Addr) :
    Turn P w K (.Tuple elts kk tpos) (IteT K a) [e, it] e (fun i h => (∃ old, IsEnum h e it ((i : Nat) : Int) old) ∧ h.IsTupleIter it a i ∧ e ≠ it) where
  mem := by simp
  obj := fun i h st b hb => by
    obtain ⟨⟨old, he⟩, ⟨o, ho, hc, hd⟩, _⟩ := st
    have e' : b = e ∨ b = it := by simpa using hb
    rcases e' with z | z
    · rw [z]; exact ⟨_, he, fun v q => nomatch q⟩
    · rw [z]; exact ⟨o, ho, fun v q => by rw [hd] at q; cases q⟩
  keep := fun i h h' st k => let ⟨⟨old, he⟩, hi, hne⟩ := st; ⟨⟨old, k e (by simp) _ he⟩, hi.at fun o q => k it (by simp) o q, hne⟩
  item := by
    intro X hP hw hK hc i pins s σ H E I hf st hg
    subst hP hw hK
    obtain ⟨⟨old, he⟩, hit, hne⟩ := st
    obtain ⟨xs, x, hq, hx⟩ := hg
    obtain ⟨its, rv, p, hz⟩ := I.tuple hq
    obtain ⟨u, hu, ru⟩ := rv.get hx
    have hT0 : s.heap.IsTuple a its.toArray := p
    have hel : e < s.heap.objs.size := Heap.lt_size he
    have hil : it < s.heap.objs.size := by obtain ⟨_, q, _⟩ := hit; exact Heap.lt_size q
    have hat : a ≠ it := by obtain ⟨o, q, c, _⟩ := hit; exact tup_apart hT0 q c (by decide)
    have hae : a ≠ e := tup_apart hT0 he rfl (by decide)
    have hlt : i < its.toArray.size := by
      have := (List.getElem?_eq_some_iff.mp hu).1
      simpa using this
    refine wpAny_pyNext_enum_itemD (Draws.tuple (A := X.A.in1) (I.ok.hd hc) it a hat its.toArray) he ⟨hit, hT0⟩ hlt hne (by simp [hne, hae.symm]) fun x' h' tk hP ho hst' hT hsz hk => ?_
    obtain ⟨hit', _⟩ := hst'
    have hxu : x' = u := by
      have h1 : its[i]? = some x' := by simpa using hP
      rw [hu] at h1
      exact (Option.some.inj h1).symm
    subst hxu
    refine ⟨_, rfl, wpAny_letOwnedTupleGo_enum (s := { s with heap := h', toks := tk + 1 }) ho fun h'' he' sb => ?_⟩
    have hT2 : h''.get? s.heap.objs.size = some { cls := .type "tuple", data := .seq #[.int i tk, x'] } := (sb.2 _ (Nat.ne_of_gt hel)).trans hT
    have new : ObjOk X.prog X.w (upd H s.heap.objs.size (.tup [.int (i : Nat), x])) h'' s.heap.objs.size (.tup [.int (i : Nat), x]) :=
      ⟨by show 2 ≤ sizeLine; decide, [.int i tk, x'], .cons ⟨_, rfl⟩ (.cons ru .nil), ⟨_, hT2, rfl, _, rfl⟩⟩
    have I1 : Inv X pins σ (upd H s.heap.objs.size (.tup [.int (i : Nat), x])) { s with heap := h'', toks := tk + 1 } :=
      I.turnedNew (ch := [e, it]) (fun b ob hb q => (sb.2 b (fun z => hb (by simp [z]))).trans (hk b ob (fun z => hb (by simp [z])) (fun z => hb (by simp [z])) q)) hf (Nat.le_refl _) new
    refine ⟨.ref s.heap.objs.size, _, I1, rfl, ⟨_, x, rfl, I.hok.fresh (Nat.le_refl _), rfl, fun ys hy => by rw [I.tuple_inj hy hq]; exact hx⟩, ⟨⟨x', ?_⟩, hit'.at fun o q => (sb.2 it (Ne.symm hne)).trans q, hne⟩, fun b hb => ?_⟩
    · have e1 : ((i + 1 : Nat) : Int) = (i : Int) + 1 := by omega
      rw [e1]; exact he'
    · have hb' : b < s.heap.objs.size := by
        have e' : b = e ∨ b = it := by simpa using hb
        rcases e' with z | z
        · rw [z]; exact hel
        · rw [z]; exact hil
      rw [upd_ne (Nat.ne_of_lt hb')]
      exact (hf b hb).1
  done := by
    intro X hP hw hK hc i pins s σ H E I hf st hg
    subst hP hw hK
    obtain ⟨⟨old, he⟩, hit, hne⟩ := st
    obtain ⟨xs, hq, hx⟩ := hg
    obtain ⟨its, rv, p, hz⟩ := I.tuple hq
    have hT0 : s.heap.IsTuple a its.toArray := p
    obtain ⟨f0, f1, f2, f3, f4, f5⟩ := hf it (by simp)
    have hl := rv.length
    have hat : a ≠ it := by obtain ⟨o, q, c, _⟩ := hit; exact tup_apart hT0 q c (by decide)
    have hae : a ≠ e := tup_apart hT0 he rfl (by decide)
    have hi : its.toArray.size = i := by simp only [List.size_toArray]; omega
    have hit' : s.heap.IsTupleIter it a its.toArray.size := by rw [hi]; exact hit
    exact wpAny_pyNext_enum_endD (Draws.tuple (A := X.A.in1) (I.ok.hd hc) it a hat its.toArray) he ⟨hit', hT0⟩ fun h' eb => ⟨rfl, I.turned (t' := s.toks) (fun b o hb q => eb b o hb q) f0 f1 f3 f4 f5⟩
  self := fun A i s Q E st h => let ⟨⟨_, he⟩, _⟩ := st; wpAny_pyIter_enum he h
def iEnumT (K : PySem.W.Frag) (ta : TA) : TI := fun σ H R => ta σ H fun vs H1 => ∃ a xs, vs = [.ref a] ∧ SqT K H1 a xs ∧ R (IteT K a) H1
theorem pi_enumT {X : Cx} {e : Expr} {ta : TA} {p pos tpos : Pos} {elts : List Expr} {kk : Nat} (hg : Gl X "enumerate") (hm : X.mg "enumerate" = none) (ha : PA X [e] ta) (hs : starEach [e] X.env = [(false, eval e X.env)] := by rfl) :
    PI X (.Tuple elts kk tpos) (.Call (.Name "enumerate" p) [e] [] pos) (iEnumT X.K ta) := by
  refine ⟨fun pins s σ H R I h => ?_⟩
  refine Call_ (ld_blt I hg hm boot_enumerate (PyProof.Rows.callWith_type1 (thn (ha.run pos pins s σ H _ I h) fun us s1 ⟨vs, H1, I1, r1, q1⟩ => ?_) hs rfl))
  obtain ⟨a, xs, ex, hq, q⟩ := q1
  subst ex
  cases r1 with
  | cons r rr =>
    cases rr
    cases r
    obtain ⟨its, rv, p', hz⟩ := I1.tuple hq
    have hT0 : s1.heap.IsTuple a its.toArray := p'
    refine call_enumT hT0 fun h' he hit hk => wpAny_pyIter_enum he ?_
    have I2 : Inv X pins σ H1 { s1 with heap := h' } := I1.kept (t' := s1.toks) hk
    refine ⟨s1.heap.objs.size + 1, [s1.heap.objs.size + 1, s1.heap.objs.size], _, _, H1, rfl, I2, turn_enumT a (s1.heap.objs.size + 1) s1.heap.objs.size, ⟨⟨.none, he⟩, hit, Nat.succ_ne_self _⟩, fun b hb => ?_, q⟩
    have e' : b = s1.heap.objs.size + 1 ∨ b = s1.heap.objs.size := by simpa using hb
    have hle : s1.heap.objs.size ≤ b := by
      rcases e' with z | z
      · rw [z]; exact Nat.le_add_right _ _
      · rw [z]; exact Nat.le_refl _
    exact I1.fpOk hle (I1.hok.fresh hle)
theorem pi_enumTK {X : Cx} {e : Expr} {ta : TA} {p pos tpos : Pos} {elts : List Expr} {kk : Nat} (K : PySem.W.Frag) (hK : X.K = K) (hg : Gl X "enumerate") (hm : X.mg "enumerate" = none) (ha : PA X [e] ta) (hs : starEach [e] X.env = [(false, eval e X.env)] := by rfl) :
    PI X (.Tuple elts kk tpos) (.Call (.Name "enumerate" p) [e] [] pos) (iEnumT K ta) := hK ▸ pi_enumT hg hm ha hs
theorem walk_enumT {K : PySem.W.Frag} {a : Addr} {xs : List V} : Walk (IteT K a) xs.length (fun H => SqT K H a xs) (YPair (fun i => some (.int (i : Nat))) (fun i => xs[i]?)) := by
  refine ⟨fun i _ hi q => ⟨xs, xs[i], q, by simp [hi]⟩, fun _ q => ⟨xs, q, rfl⟩, fun i H v H' _ q y => ?_⟩
  obtain ⟨T, x, h1, h2, h3, h4⟩ := y
  exact ⟨T, .int (i : Nat), x, h1, h2, h3, rfl, h4 xs q⟩
theorem ei_enumT {K : PySem.W.Frag} {σ : L2.St} {H : Hp} {a : Addr} {xs : List V} {ta : TA} (h : EvA ta σ H [.ref a]) (hx : H a = some (.tup xs)) : EvI (iEnumT K ta) σ H (IteT K a) :=
  ⟨fun H1 e R q => h H1 e _ fun H2 e2 => ⟨a, xs, rfl, st_of (e2 _ _ (e _ _ hx)), q H2 e2⟩⟩
end K88

namespace K88
open PySem PySem.Spec PyProof.Rows L2 Evl
section
variable {X : Cx}
/-- name = {..} on one line, the name a local -/
theorem ps_setDc {i : Nat} {y : Str} {py : Pos} {kx vx tg iter : Expr} {ifs : List Expr} {scope : Scope} {own : List (Str × Nat)} {pos spos : Pos} {wi : TI} {g : TG} {tt : TT} {tk tv : TE} (hc : X.calm = true) (hN : X.N.Nodup) (hy : X.N[i]? = some y) (hyl : X.env.scope.names.lookup y = some .local)
    (hsw : swapsWith (.DictComp kx vx [⟨tg, iter, ifs, 0⟩] scope pos) (some (.Name y py)) spos.line X.env = pure true) (hi : PI X tg iter wi) (ok : BlkOk X.N X.env.scope scope own)
    (hg : ∀ (s : Shared) (H : Hp) (C : Addr) (cl : List (Str × Addr)) (fp : List Addr), PG (X.blk s H scope (compEnvC scope cl C X.env) fp) tg g) (ht : ∀ (s : Shared) (H : Hp) (C : Addr) (cl : List (Str × Addr)) (fp : List Addr), PTs (X.blk s H scope (compEnvC scope cl C X.env) fp) ifs tt)
    (hk : ∀ (s : Shared) (H : Hp) (C : Addr) (cl : List (Str × Addr)) (fp : List Addr), PE (X.blk s H scope (compEnvC scope cl C X.env) fp) kx tk)
    (he : ∀ (s : Shared) (H : Hp) (C : Addr) (cl : List (Str × Addr)) (fp : List Addr), PE (X.blk s H scope (compEnvC scope cl C X.env) fp) vx tv) (hs : ∀ x, foldedSetIterable iter X.env x = pure x := by intro _; rfl) :
    PS X (.Assign [.Name y py] (.DictComp kx vx [⟨tg, iter, ifs, 0⟩] scope pos) spos) (tAsg (tDc wi g tt tk tv (own.map (·.2))) (gName i)) := by
  refine ⟨fun pins s σ H D I h => ?_⟩
  rw [exec_Assign_Name_used _ _ _ _ hsw]
  refine wpAny_bind (wpAny_standAt (wpAny_bind ?_))
  show wpAny _ X.A (do let _ ← comprehension (.DictComp kx vx [⟨tg, iter, ifs, 0⟩] scope pos) scope X.env (firstIterPos [⟨tg, iter, ifs, 0⟩] pos) newDict false (eval iter X.env) (some (assign (.Name y py) X.env))) _ _ s
  have h : tDc wi g tt tk tv (own.map (·.2)) σ H (fun x H1 => gName i x σ H1 D.nx) := h
  refine wpAny_bind (thn (dc_core (Qf := fun _ s' => SP X pins D .next s') hc hN I hi ok hg ht hk he hs h fun L C s' m H' I' q hn f => ?_) fun _ s' hq => wpAny_pure (wpAny_pure hq))
  show wpAny _ _ (assign (.Name y py) X.env (.ref L)) _ _ _
  refine wpAny_assign_Name (store_ok2 (v := V.ref L) I' hN hy (.inl hyl) rfl (fun s2 I2 ⟨a, sb, ha⟩ => ?_) (.inr hyl))
  obtain ⟨f0, f1, f2, f3, f4, f5⟩ := f
  have haC : C ≠ a := by
    rcases ha with z | z
    · rw [z]; exact f1
    · exact fun e => f4 y a z e.symm
  refine ⟨m, hn.sameBut sb haC, fun h3 sb3 => ?_⟩
  exact ⟨_, H', I2.turned (t' := s2.toks) (fun b o hb e => (sb3.2 b hb).trans e) f0 f1 f3 f4 f5, q⟩
theorem sw_trueD {kx vx : Expr} {gs : List Comprehension} {scope : Scope} {pos py : Pos} {y : Str} {l : Nat} {env : Env} (hk : env.scope.kind = .function) (hy : env.scope.names.lookup y = some .local) (hl : (py.line == pos.line) = true)
    (ha : (scope.names.any fun (n, k) => n == y && (k == .local || k == .cell)) = false) : swapsWith (.DictComp kx vx gs scope pos) (some (.Name y py)) l env = pure true := by
  have ky : env.kindOf y = some .local := hy
  have hb : env.blockKind = .function := by unfold Env.blockKind; rw [hk]; rfl
  unfold swapsWith
  simp only [hb, ky, ha, Expr.pos, hl]
  rfl
end
end K88

namespace K88
open PySem PySem.Spec PyProof.Rows L2 Evl
open AutoSeq1 (wpAny_loadPart')
theorem tuple_mul0 (l : Addr) (items : Array Value) (n : Nat) (dd : Option Addr) (sl : Array (Option Value)) (u : Tok) (hi : items.isEmpty = false) :
    Meets (Builtin.«tuple.__mul__» ⟨[.ref l, .int 0 u], []⟩) (fun _ R s => s.heap.get? l = some { cls := .type "tuple", dict := dd, data := .seq items n, slots := sl } ∧
      R (.ok (.ret (Value.ref s.heap.objs.size))) { s with heap := s.heap.push { cls := Value.type "tuple", data := Data.seq #[] }, toks := s.toks }) :=
  .of_wp fun prog w A R s h => by
    obtain ⟨hp, g, d, tk, os⟩ := s
    obtain ⟨hl, h⟩ := h
    have f1 := AutoSeq1.idx_int
    wp_walk using wpAny_loadPart' hl
    exact ⟨_, rfl, h⟩
theorem tuple_mul1 (l : Addr) (items : Array Value) (n : Nat) (dd : Option Addr) (sl : Array (Option Value)) (u : Tok) (hi : items.isEmpty = false) :
    Meets (Builtin.«tuple.__mul__» ⟨[.ref l, .int 1 u], []⟩) (fun _ R s => s.heap.get? l = some { cls := .type "tuple", dict := dd, data := .seq items n, slots := sl } ∧
      R (.ok (.ret (Value.ref l))) s) :=
  .of_wp fun prog w A R s h => by
    obtain ⟨hp, g, d, tk, os⟩ := s
    obtain ⟨hl, h⟩ := h
    have f1 := AutoSeq1.idx_int
    wp_walk using wpAny_loadPart' hl
    exact ⟨_, rfl, h⟩
/-- (v,) * k -/
def rRepA (K : PySem.W.Frag) : R2 := fun x y H Q => ∃ l k v, x = .ref l ∧ y = .int ((k : Nat) : Int) ∧ SqT K H l [v] ∧ k ≤ 1000 ∧ (k = 1 → Q (.ref l) H) ∧ (k ≠ 1 → ∀ p, H p = none → Q (.ref p) (upd H p (.tup (List.replicate k v))))
theorem flat_rep {α : Type} (v : α) : ∀ n : Nat, (List.replicate n [v]).flatten = List.replicate n v
  | 0 => rfl
  | n + 1 => by rw [List.replicate_succ, List.flatten_cons, flat_rep v n, List.replicate_succ]; rfl
theorem op_repA {X : Cx} : OpR X (binaryOp .Mult) (rRepA X.K) := by
  intro pins s σ H x y v u Q I rx ry h
  obtain ⟨l, k, vv, rfl, rfl, hT, hk, q1, q2⟩ := h
  by_cases h2 : 2 ≤ k
  · refine op_repT pins s σ H (.ref l) (.int (k : Int)) v u Q I rx ry ⟨l, (k : Int), [vv], rfl, rfl, hT, by simp, by omega, by omega, by simp, fun p hp => ?_⟩
    rw [Int.toNat_natCast, flat_rep]
    exact q2 (by omega) p hp
  cases rx
  obtain ⟨t, rfl⟩ := ry
  obtain ⟨its, r, ⟨⟨cls, dd, data, sl⟩, ho, hc, n, hd⟩, hs⟩ := I.tuple hT
  simp only at hc hd
  subst hc hd
  have hle : its.length = 1 := r.length.symm
  have hi : its.toArray.isEmpty = false := by
    cases its with
    | nil => simp at hle
    | cons a b => rfl
  have e01 : k = 0 ∨ k = 1 := by omega
  rcases e01 with rfl | rfl
  · refine wpAny_binaryOp_repeat_ref (T := "tuple") (U := "int") (by decide) ⟨_, ho, rfl⟩ (fun s' => typeIs_int s' _ t) noFill_tuple_mul F.fills_int_mul F.slot_int_rmul repeat_tuple F.slot_int_index.lookup
      (call_meets F.slot_int_rmul (typeIs_int s _ t) F.entry_int_rmul (F.args_int_rmul_2 _ _) (int_rmul_tuple _ t l its.toArray n dd sl)
        ⟨ho, rfl, ⟨_, ho, rfl⟩, call_meets F.slot_tuple_mul ⟨_, ho, rfl⟩ F.entry_tuple_mul (F.args_tuple_mul_2 _ _) (tuple_mul0 l its.toArray n dd sl t hi) ⟨ho, ?_⟩⟩)
    refine ⟨.ref s.heap.objs.size, _, I.laid (t' := s.toks) (o := .tup []) (fun b ob q => Heap.get?_push_of_some _ q) (Nat.le_refl _) ?_, rfl, q2 (by decide) _ (I.hok.fresh (Nat.le_refl _))⟩
    exact ⟨Nat.zero_le _, [], .nil, IsTup.new _ _⟩
  · refine wpAny_binaryOp_repeat_ref (T := "tuple") (U := "int") (by decide) ⟨_, ho, rfl⟩ (fun s' => typeIs_int s' _ t) noFill_tuple_mul F.fills_int_mul F.slot_int_rmul repeat_tuple F.slot_int_index.lookup
      (call_meets F.slot_int_rmul (typeIs_int s _ t) F.entry_int_rmul (F.args_int_rmul_2 _ _) (int_rmul_tuple _ t l its.toArray n dd sl)
        ⟨ho, rfl, ⟨_, ho, rfl⟩, call_meets F.slot_tuple_mul ⟨_, ho, rfl⟩ F.entry_tuple_mul (F.args_tuple_mul_2 _ _) (tuple_mul1 l its.toArray n dd sl t hi) ⟨ho, ?_⟩⟩)
    exact ⟨.ref l, H, I, rfl, q1 rfl⟩
theorem op_repAK {X : Cx} (K : PySem.W.Frag) (hK : X.K = K) : OpR X (binaryOp .Mult) (rRepA K) := hK ▸ op_repA
theorem ep_rep {K : PySem.W.Frag} {σ : L2.St} {H : Hp} {ta tb : TE} {v : V} {k : Nat} (ha : EvU ta σ H [v]) (hb : Ev tb σ H (.int (k : Int))) (hk : k ≤ 1000) : ∀ H1, Ex H H1 → ∀ Q : VK, (∀ p H2, Ex H1 H2 → H2 p = some (.tup (List.replicate k v)) → Q (.ref p) H2) → tOp (rRepA K) ta tb σ H1 Q := fun H1 e Q q =>
  ha H1 e _ fun p H2 _ e2 h2 => hb H2 (e.trans e2) _ fun H3 e3 => ⟨p, k, v, rfl, rfl, Evl.st_of (e3 _ _ h2), hk, fun h1 => q p H3 (e2.trans e3) (by rw [h1]; exact e3 _ _ h2), fun _ r hr => q r _ ((e2.trans e3).trans (Ex.new hr)) upd_same⟩
end K88

set_option maxHeartbeats 4000000
namespace K88
open PySem PySem.Spec PyProof.Rows L2 Evl
section
variable {X : Cx}
/-- t in xs, t not in xs: tuples of texts -/
def rIn8 (neg : Bool) : R2 := fun x y H Q => ∃ (q : Row8) (l : Addr) (L : List Row8), x = .ref q.1 ∧ y = .ref l ∧ H l = some (.lst (L.map fun r => V.ref r.1)) ∧ Rows8 H L ∧ H q.1 = some (.tup (q.2.map V.str)) ∧
  Q (.bl (if neg then !decide (q.2 ∈ L.map (·.2)) else decide (q.2 ∈ L.map (·.2)))) H
theorem any8 {L : List Row8} (one : ∀ q, q ∈ L → ∀ r, r ∈ L → q.1 = r.1 → q = r) (k : List PySem.Str) : (L.map fun q => Value.ref q.1).toArray.any (fun v => decide (key8 L v = k)) = decide (k ∈ L.map (·.2)) := by
  rw [List.any_toArray, List.any_map, Bool.eq_iff_iff, List.any_eq_true, decide_eq_true_eq, List.mem_map]
  constructor
  · rintro ⟨p, hp, h⟩
    have h2 : key8 L (.ref p.1) = k := of_decide_eq_true h
    rw [key8_at one hp] at h2
    exact ⟨p, hp, h2⟩
  · rintro ⟨p, hp, h⟩
    refine ⟨p, hp, decide_eq_true ?_⟩
    rw [key8_at one hp]
    exact h
theorem op_in8 (hu : X.A.units + 64 < cLine) : OpR X (compareOp .In) (rIn8 false) := by
  intro pins s σ H x y v u Q I rx ry h
  obtain ⟨q, l, L, rfl, rfl, hl, hR, hq, k⟩ := h
  cases rx
  cases ry
  obtain ⟨z, its, n, r, _, e⟩ := I.lstM hl
  have eits := refs8 r
  subst eits
  have one := one_of8 hR
  refine SeqAt.in_listAt (fun v => decide (key8 L v = q.2)) ⟨_, e, rfl, n, rfl⟩ (fun y hy => ?_) ?_
  · obtain ⟨p, hp, rfl⟩ := List.mem_map.mp (show y ∈ L.map fun q => Value.ref q.1 by simpa using hy)
    intro P' w' E' Q' hq'
    rw [key8_at one hp] at hq'
    exact wpAny_eqBool_tuple (by show X.A.units + 1 < cLine; omega) (isT8_any I (hR p hp) P' w') (isT8_any I hq P' w') hq'
  · rw [any8 one]
    exact ⟨.bl _, H, I, rfl, k⟩
theorem op_notIn8 (hu : X.A.units + 64 < cLine) : OpR X (compareOp .NotIn) (rIn8 true) := by
  intro pins s σ H x y v u Q I rx ry h
  obtain ⟨q, l, L, rfl, rfl, hl, hR, hq, k⟩ := h
  cases rx
  cases ry
  obtain ⟨z, its, n, r, _, e⟩ := I.lstM hl
  have eits := refs8 r
  subst eits
  have one := one_of8 hR
  refine SeqAt.notIn_listAt (fun v => decide (key8 L v = q.2)) ⟨_, e, rfl, n, rfl⟩ (fun y hy => ?_) ?_
  · obtain ⟨p, hp, rfl⟩ := List.mem_map.mp (show y ∈ L.map fun q => Value.ref q.1 by simpa using hy)
    intro P' w' E' Q' hq'
    rw [key8_at one hp] at hq'
    exact wpAny_eqBool_tuple (by show X.A.units + 1 < cLine; omega) (isT8_any I (hR p hp) P' w') (isT8_any I hq P' w') hq'
  · rw [any8 one]
    exact ⟨.bl _, H, I, rfl, k⟩
end
/-- a tuple of texts -/
def td (k : List PySem.Str) : Da := .t (k.map Da.s)
section
variable {K : PySem.W.Frag} {σ : L2.St} {H : Hp} {ta tb : TE}
theorem rep_td {v : V} {k : List PySem.Str} (h : Rep K H v (td k)) : ∃ a, v = .ref a ∧ H a = some (.tup (k.map V.str)) := by
  unfold td Rep at h
  obtain ⟨a, us, rfl, ha, r⟩ := h
  rw [reps_strs r] at ha
  exact ⟨a, rfl, ha⟩
theorem td_rep {a : Addr} {k : List PySem.Str} (h : H a = some (.tup (k.map V.str))) : Rep K H (.ref a) (td k) := rep_t h strs_reps
theorem rows_of : ∀ {us : List V} {ks : List (List PySem.Str)}, Reps K H us (ks.map td) → ∃ L : List Row8, us = L.map (fun q => V.ref q.1) ∧ L.map (·.2) = ks ∧ Rows8 H L
  | us, [], h => by
    have h2 : Reps K H us [] := h
    unfold Reps at h2
    exact ⟨[], h2, rfl, fun p hp => absurd hp (by simp)⟩
  | us, k :: ks, h => by
    have h2 : Reps K H us (td k :: ks.map td) := h
    unfold Reps at h2
    obtain ⟨v, r, rfl, h1, h2⟩ := h2
    obtain ⟨a, rfl, ha⟩ := rep_td h1
    obtain ⟨L, rfl, e2, hR⟩ := rows_of h2
    exact ⟨(a, k) :: L, rfl, by rw [List.map_cons, e2], fun p hp => by
      rcases List.mem_cons.mp hp with rfl | hp
      · exact ha
      · exact hR p hp⟩
theorem of_rows : ∀ {L : List Row8}, Rows8 H L → Reps K H (L.map fun q => V.ref q.1) ((L.map (·.2)).map td)
  | [], _ => Reps.nil_
  | q :: L, h => Reps.cons_ (td_rep (h q List.mem_cons_self)) (of_rows fun p hp => h p (List.mem_cons_of_mem _ hp))
theorem ev_in8 {neg : Bool} {k : List PySem.Str} {ks : List (List PySem.Str)} (h : EvP ta σ H (fun v H => Rep K H v (td k))) (hb : EvP tb σ H (IsLR K (ks.map td))) : Ev (tOp (rIn8 neg) ta tb) σ H (.bl (if neg then !decide (k ∈ ks) else decide (k ∈ ks))) := fun H1 e Q q =>
  h H1 e _ fun v H2 e2 r => hb H2 (e.trans e2) _ fun y H3 e3 ⟨p, us, hy, hp, rs⟩ => by
    obtain ⟨a, rfl, ha⟩ := rep_td r
    obtain ⟨L, rfl, e4, hR⟩ := rows_of rs
    subst hy
    refine ⟨(a, k), p, L, rfl, rfl, hp, hR, e3 _ _ ha, ?_⟩
    rw [e4]
    exact q H3 (e2.trans e3)
end
/-- pairs of texts -/
def pd (q : PySem.Str × PySem.Str) : List PySem.Str := [q.1, q.2]
theorem pd_inj {q r : PySem.Str × PySem.Str} (h : pd q = pd r) : q = r := by
  unfold pd at h
  injection h with h1 h2
  injection h2 with h2
  exact Prod.ext h1 h2
theorem pd_mem {q : PySem.Str × PySem.Str} {ps : List (PySem.Str × PySem.Str)} : pd q ∈ ps.map pd ↔ q ∈ ps := by
  rw [List.mem_map]
  exact ⟨fun ⟨r, hr, e⟩ => pd_inj e ▸ hr, fun h => ⟨q, h, rfl⟩⟩
end K88

set_option maxHeartbeats 4000000
namespace K88
open PySem L2 Evl
/-! ### what a tag tells -/
theorem tag_set {s : Stm} (h : decide (s.tag = "set") = true) : ∃ x e, s = .set x e := by
  cases s <;> first | exact ⟨_, _, rfl⟩ | (have h2 := of_decide_eq_true h; simp only [Stm.tag] at h2; exact absurd h2 (by decide +kernel))
theorem tag_push {s : Stm} (h : decide (s.tag = "push") = true) : ∃ e a, s = .push e a := by
  cases s <;> first | exact ⟨_, _, rfl⟩ | (have h2 := of_decide_eq_true h; simp only [Stm.tag] at h2; exact absurd h2 (by decide +kernel))
theorem tag_pop {s : Stm} (h : decide (s.tag = "pop") = true) : ∃ x a, s = .pop x a := by
  cases s <;> first | exact ⟨_, _, rfl⟩ | (have h2 := of_decide_eq_true h; simp only [Stm.tag] at h2; exact absurd h2 (by decide +kernel))
theorem tag_pause {s : Stm} (h : decide (s.tag = "pause") = true) : ∃ p, s = .pause p := by
  cases s <;> first | exact ⟨_, rfl⟩ | (have h2 := of_decide_eq_true h; simp only [Stm.tag] at h2; exact absurd h2 (by decide +kernel))
theorem tag_call {s : Stm} (h : decide (s.tag = "call") = true) : ∃ c as ts p, s = .call c as ts p := by
  cases s <;> first | exact ⟨_, _, _, _, rfl⟩ | (have h2 := of_decide_eq_true h; simp only [Stm.tag] at h2; exact absurd h2 (by decide +kernel))
theorem tag_ite {s : Stm} (h : decide (s.tag = "if") = true) : ∃ t b c, s = .ite t b c := by
  cases s <;> first | exact ⟨_, _, _, rfl⟩ | (have h2 := of_decide_eq_true h; simp only [Stm.tag] at h2; exact absurd h2 (by decide +kernel))
theorem tag_whl {s : Stm} (h : decide (s.tag = "while") = true) : ∃ t b p, s = .whl t b p := by
  cases s <;> first | exact ⟨_, _, _, rfl⟩ | (have h2 := of_decide_eq_true h; simp only [Stm.tag] at h2; exact absurd h2 (by decide +kernel))
def Stm.isCall : Stm → Bool
  | .call _ _ _ _ => true
  | _ => false
theorem tag_isCall (s : Stm) : decide (s.tag = "call") = s.isCall := by cases s <;> first | exact decide_eq_true rfl | (refine decide_eq_false ?_; simp only [Stm.tag]; decide +kernel)
def Stm.cn : Stm → Str
  | .call c _ _ _ => c
  | _ => ""
/-- the names called, in order -/
def Prc.calls (p : Prc) : List Str := ((flat 4 p.body).filter Stm.isCall).map Stm.cn
/-- the names a statement assigns, lengths with the sign -/
def asg : Stm → List Str
  | .set x _ => [x]
  | .pop x a => [x, hsh a]
  | .push _ a => [hsh a]
  | .call _ _ ts _ => ts
  | _ => []
def chg : Stm → List Str
  | .set x _ => [x]
  | .pop x a => [x, a]
  | .push _ a => [a]
  | .call _ _ ts _ => ts
  | _ => []
theorem asg_len {s : Stm} {d : Nat} {b : List Stm} (h : Wb d b) (hs : s ∈ flat d b) : (asg s).length ≤ 2 := by
  cases s with
  | call c as ts p =>
    show ts.length ≤ 2
    suffices ∀ (d : Nat) (b : List Stm), Wb d b → Stm.call c as ts p ∈ flat d b → ts.length ≤ 1 by have := this d b h hs; omega
    intro d
    induction d with
    | zero => intro b h; exact h.elim
    | succ d ih =>
      intro b h hm
      rw [flat, List.mem_flatMap] at hm
      obtain ⟨s, hs, hm⟩ := hm
      have h2 := h.2 s hs
      rcases List.mem_cons.mp hm with e | hm
      · subst e; exact h2.2
      · cases s with
        | ite t x y =>
          rcases List.mem_append.mp hm with hm | hm
          · exact ih x h2.1 hm
          · exact ih y h2.2 hm
        | whl t x p => exact ih x h2.2 hm
        | _ => cases hm
  | _ => simp [asg]
theorem chg_len {s : Stm} {d : Nat} {b : List Stm} (h : Wb d b) (hs : s ∈ flat d b) : (chg s).length ≤ 2 := by
  have := asg_len h hs
  cases s <;> exact this
theorem flat_wb : ∀ {d : Nat} {b : List Stm} {s : Stm}, Wb d b → s ∈ flat d b → match s with
    | .call _ _ ts p => p = none ∧ ts.length ≤ 1
    | .whl _ _ p => p = none
    | .pause p => p = none
    | _ => True
  | 0, _, _, h, _ => h.elim
  | d + 1, b, s, h, hm => by
    rw [flat, List.mem_flatMap] at hm
    obtain ⟨s', hs, hm⟩ := hm
    have h2 := h.2 s' hs
    rcases List.mem_cons.mp hm with e | hm
    · subst e
      cases s with
      | whl t x p => exact h2.1
      | ite => trivial
      | call => exact h2
      | pause => exact h2
      | _ => trivial
    · cases s' with
      | ite t x y =>
        rcases List.mem_append.mp hm with hm | hm
        · exact flat_wb h2.1 hm
        · exact flat_wb h2.2 hm
      | whl t x p => exact flat_wb h2.2 hm
      | _ => cases hm
theorem prc_da (p : Prc) : p.da = .t [.s p.name, .t (p.items.map itemDa), .t (p.res.map Da.s), p.plc, .t [], .t [], .t [], .t [], .t (das p.body)] := rfl
/-! ### proc_named, calls_in -/
def spProc (K : PySem.W.Frag) : Sp := fun vs H Q _ => ∃ v C x p, vs = [v, .str x] ∧ Rep K H v (coreDa C) ∧ C.length ≤ 6 ∧ C.find? (fun q => decide (q.name = x)) = some p ∧ RetP (fun v H => Rep K H v p.da) H Q
def spCalls (K : PySem.W.Frag) : Sp := fun vs H Q _ => ∃ (v : V) (p : Prc), vs = [v] ∧ Rep K H v p.da ∧ Wb 4 p.body ∧ RetLR K (p.calls.map Da.s) H Q
def spAsg (K : PySem.W.Frag) : Sp := fun vs H Q _ => ∃ (v : V) (C : List Prc) (p : Prc), vs = [v] ∧ Rep K H v p.da ∧ OkP C p ∧ RetLR K (((flat 4 p.body).flatMap asg).map Da.s) H Q
section
variable {P : Program} {w : World} {K : PySem.W.Frag} {mg : Str → Option Value} {base : Heap}
theorem sc_proc_named : FnScope ["core", "name", "proc"] ["core", "name"] (defScope (topS 2)) := ⟨rfl, rfl, rfl, by decide +kernel, rfl, by decide +kernel, by decide +kernel⟩
theorem ok_proc_named {f : Addr} {fd : FuncData} (F : FnP K "proc_named" "proc_named" (topS 2) f fd) (T : Bt mg) : FnOk P w K mg base CX0 1 f fd ["core", "name"] (spProc K) := by
  refine F.ok sc_proc_named (fun vs H Q E h => ?_) (fun cdv A outer s H vs Q E hr h => ?_)
  · obtain ⟨v, C, x, p, rfl, _⟩ := h
    rfl
  · obtain ⟨v, C, x, p, rfl, hv, h6, hp, q⟩ := h
    refine ⟨_, PSs.nox
      (pss_one (ps_ret (pe_ix (ix_listK K rfl) (pe_lc (own := [("proc", 2)])  rfl sc_proc_named.nd  (pi_tupK K rfl (pv 0)) (blkOk_by (own := [("proc", 2)]) (N := ["core", "name", "proc"]) (sc := defScope (topS 2)) (by decide +kernel)) (fun _ _ _ _ _ => (pg_name (i := 2) sc_proc_named.nd rfl (Or.inl rfl))) (fun _ _ _ _ _ => (pts_one (pt_cmpR op_eq (pe_ix (ix_tupK K rfl) (pv 2) pe_int (fun _ _ => rfl)) (pv 1) (nomark _)))) (fun _ _ _ _ _ => (pv 2))) pe_int (fun _ _ => rfl)))), ?_⟩
    unfold coreDa Rep at hv
    obtain ⟨a, us, rfl, ha, hr2⟩ := hv
    have h0 : ((C.filter fun q => decide (q.name = x)).map Prc.da)[0]? = some p.da := by
      rw [List.getElem?_map, ← List.head?_eq_getElem?, List.head?_filter, hp]; rfl
    refine s_retP (ev_ixN (i := 0) (ep_LR (ef_lcT (b := C) (g0 := Prc.da) (e := Prc.da) (f := fun q => decide (q.name = x)) (ev_var rfl) ha hr2 (by omega) fun i p' v' Hb hb eb rb => ⟨_, tgt_name, rfl, ?_, fun _ => ep_R (ev_var rfl) rb⟩)) h0) fun v H1 e1 r1 => q v H1 e1 r1
    rw [prc_da] at rb
    exact et_strs (ev_ixRs (i := 0) (ev_var rfl) rb rfl) (ev_var rfl)
theorem sc_calls_in : FnScope ["proc", "statement"] ["proc"] (defScope (topS 10)) := ⟨rfl, rfl, rfl, by decide +kernel, rfl, by decide +kernel, by decide +kernel⟩
theorem ok_calls_in {f : Addr} {fd : FuncData} (F : FnP K "calls_in" "calls_in" (topS 10) f fd) (T : Bt mg) (h_statements_in : Has P w K mg base "statements_in" ["body"] 4 (spStmts K 4)) : FnOk P w K mg base CX0 5 f fd ["proc"] (spCalls K) := by
  refine F.ok sc_calls_in (fun vs H Q E h => ?_) (fun cdv A outer s H vs Q E hr h => ?_)
  · obtain ⟨v, p, rfl, _⟩ := h
    rfl
  · obtain ⟨v, p, rfl, hv, hw, q⟩ := h
    refine ⟨_, PSs.nox
      (pss_one (ps_ret (pe_lc (own := [("statement", 1)])  rfl sc_calls_in.nd  (pi_listK K rfl (pe_callH h_statements_in (hr.mono (by decide)) (by rfl) (pa_cons (pe_ix (ix_tupK K rfl) (pv 0) pe_int (fun _ _ => rfl)) pa_nil))) (blkOk_by (own := [("statement", 1)]) (N := ["proc", "statement"]) (sc := defScope (topS 10)) (by decide +kernel)) (fun _ _ _ _ _ => (pg_name (i := 1) sc_calls_in.nd rfl (Or.inl rfl))) (fun _ _ _ _ _ => (pts_one (pt_cmpR op_eq (pe_ix (ix_tupK K rfl) (pv 1) pe_int (fun _ _ => rfl)) pe_str (nomark _)))) (fun _ _ _ _ _ => (pe_ix (ix_tupK K rfl) (pv 1) pe_int (fun _ _ => rfl)))))), ?_⟩
    have hl := flat_len 4 p.body hw
    rw [fcap4] at hl
    rw [prc_da] at hv
    refine s_retR (ds := (((flat 4 p.body).filter Stm.isCall).map fun s => .s s.cn)) (ef_lcN (b := flat 4 p.body) (g0 := Stm.da) (e := fun s => .s s.cn) (f := Stm.isCall) (ep_LR ?_) (by omega) fun i st v' Hb hb eb rb => ⟨_, tgt_name, rfl, ?_, fun hc => ?_⟩) fun r us H1 hn e1 h1 r1 => q r us H1 hn e1 h1 ?_
    · exact ef_callRA (er_cons (ev_ixR (i := 8) (ev_var rfl) hv rfl) er_nil) fun vs H1 e1 r Q' hQ E' => by
        obtain ⟨v8, rfl, r8⟩ := reps_one r
        exact ⟨v8, p.body, rfl, r8, hw, Nat.le_refl _, hQ⟩
    · rw [← tag_isCall]
      exact et_tag (ev_var rfl) rb
    · cases st with
      | call c as ts pp =>
        rw [Stm.da] at rb
        exact ev_ixR (i := 1) (ev_var rfl) rb rfl
      | _ => cases hc
    · unfold Prc.calls
      rw [List.map_map]
      exact r1
end
end K88

set_option maxHeartbeats 4000000
namespace K88
open PySem L2 Evl
theorem hsh_len (x : Str) : (hsh x).length = 1 + x.length := by
  unfold hsh
  show (("#" : Str).cps ++ x.cps).size = _
  rw [Array.size_append]
  rfl
theorem asg_none {s : Stm} (h1 : decide (s.tag = "set") = false) (h2 : decide (s.tag = "pop") = false) (h3 : decide (s.tag = "push") = false) (h4 : decide (s.tag = "call") = false) : asg s = [] := by
  cases s <;> first | rfl | exact absurd rfl (of_decide_eq_false h1) | exact absurd rfl (of_decide_eq_false h2) | exact absurd rfl (of_decide_eq_false h3) | exact absurd rfl (of_decide_eq_false h4)
theorem chg_none {s : Stm} (h1 : decide (s.tag = "set") = false) (h2 : decide (s.tag = "pop") = false) (h3 : decide (s.tag = "push") = false) (h4 : decide (s.tag = "call") = false) : chg s = [] := by
  cases s <;> first | rfl | exact absurd rfl (of_decide_eq_false h1) | exact absurd rfl (of_decide_eq_false h2) | exact absurd rfl (of_decide_eq_false h3) | exact absurd rfl (of_decide_eq_false h4)
section
variable {P : Program} {w : World} {K : PySem.W.Frag} {mg : Str → Option Value} {base : Heap}
theorem sc_assigned_in : FnScope ["proc", "found", "statement", "x", "expression"] ["proc"] (defScope (topS 3)) := ⟨rfl, rfl, rfl, by decide +kernel, rfl, by decide +kernel, by decide +kernel⟩
theorem ok_assigned_in {f : Addr} {fd : FuncData} (F : FnP K "assigned_in" "assigned_in" (topS 3) f fd) (T : Bt mg) (h_statements_in : Has P w K mg base "statements_in" ["body"] 4 (spStmts K 4)) : FnOk P w K mg base CX0 5 f fd ["proc"] (spAsg K) := by
  refine F.ok sc_assigned_in (fun vs H Q E h => ?_) (fun cdv A outer s H vs Q E hr h => ?_)
  · obtain ⟨v, C, p, rfl, _⟩ := h
    rfl
  · obtain ⟨v, C, p, rfl, hv, hP, q⟩ := h
    refine ⟨_, PSs.nox
      (pss_cons (ps_set (i := 1) sc_assigned_in.nd rfl (Or.inl rfl) (pe_lst pa_nil))
      (pss_cons (ps_for PassesOwn.never rfl (pi_listK K rfl (pe_callH h_statements_in (hr.mono (by decide)) (by rfl) (pa_cons (pe_ix (ix_tupK K rfl) (pv 0) pe_int (fun _ _ => rfl)) pa_nil))) (pg_name (i := 2) sc_assigned_in.nd rfl (Or.inl rfl)) (pss_one (ps_if (pt_cmpR op_eq (pe_ix (ix_tupK K rfl) (pv 2) pe_int (fun _ _ => rfl)) pe_str (nomark _)) (pss_one (ps_expr (pe_bm PySem.F.plainAttrs_list PySem.F.slot_list_extend PySem.F.type_list_extend mt_extend (pv 1) (pa_cons (pe_lc (own := [("x", 3), ("expression", 4)])  rfl sc_assigned_in.nd  (pi_tupK K rfl (pe_ix (ix_tupK K rfl) (pv 2) pe_int (fun _ _ => rfl))) (blkOk_by (own := [("x", 3), ("expression", 4)]) (N := ["proc", "found", "statement", "x", "expression"]) (sc := defScope (topS 3)) (by decide +kernel)) (fun _ _ _ _ _ => (pg_tupK K rfl (n := 2) rfl (pgs_cons (pg_name (i := 3) sc_assigned_in.nd rfl (Or.inl rfl)) (pgs_cons (pg_name (i := 4) sc_assigned_in.nd rfl (Or.inl rfl)) pgs_nil)))) (fun _ _ _ _ _ => pts_nil) (fun _ _ _ _ _ => (pv 3))) pa_nil)))) (pss_one (ps_if (pt_cmpR op_eq (pe_ix (ix_tupK K rfl) (pv 2) pe_int (fun _ _ => rfl)) pe_str (nomark _)) (pss_one (ps_expr (pe_bm PySem.F.plainAttrs_list PySem.F.slot_list_extend PySem.F.type_list_extend mt_extend (pv 1) (pa_cons (pe_lst (pa_cons (pe_ix (ix_tupK K rfl) (pv 2) pe_int (fun _ _ => rfl)) (pa_cons (pe_op op_add_str pe_str (pe_ix (ix_tupK K rfl) (pv 2) pe_int (fun _ _ => rfl))) pa_nil))) pa_nil)))) (pss_one (ps_if (pt_cmpR op_eq (pe_ix (ix_tupK K rfl) (pv 2) pe_int (fun _ _ => rfl)) pe_str (nomark _)) (pss_one (ps_expr (pe_bm PySem.F.plainAttrs_list PySem.F.slot_list_append PySem.F.type_list_append mt_append (pv 1) (pa_cons (pe_op op_add_str pe_str (pe_ix (ix_tupK K rfl) (pv 2) pe_int (fun _ _ => rfl))) pa_nil)))) (pss_one (ps_if (pt_cmpR op_eq (pe_ix (ix_tupK K rfl) (pv 2) pe_int (fun _ _ => rfl)) pe_str (nomark _)) (pss_one (ps_expr (pe_bm PySem.F.plainAttrs_list PySem.F.slot_list_extend PySem.F.type_list_extend mt_extT (pv 1) (pa_cons (pe_ix (ix_tupK K rfl) (pv 2) pe_int (fun _ _ => rfl)) pa_nil)))) pss_nil)))))))))
      (pss_one (ps_ret (pv 1))))), ?_⟩
    have hw := hP.wb
    have hl := flat_len 4 p.body hw
    rw [fcap4] at hl
    rw [prc_da] at hv
    refine q_asgR (ef_nil K) fun F us0 H1 hF e1 h1 r1 => ?_
    refine q_seq (s_accL (b := flat 4 p.body) (g := Stm.da) (f := fun s => (asg s).map Da.s) (l0 := []) (H0 := H) (SI := fun F σ => ∃ x y z, σ = [some v, some (.ref F), x, y, z]) (ef_callRA (er_cons (ev_ixR (i := 8) (ev_var rfl) (hv.ex e1) rfl) er_nil) fun vs H1 e1 r Q' hQ E' => by
        obtain ⟨v8, rfl, r8⟩ := reps_one r
        exact ⟨v8, p.body, rfl, r8, hw, Nat.le_refl _, hQ⟩) ⟨F, us0, e1, hF, ⟨_, _, _, rfl⟩, h1, r1⟩ ?_ ?_)
    · rintro H0' i st v' σ' H' e0 _ hb hv0 ⟨F, us, e, hF, ⟨x, y, z, rfl⟩, hf, r⟩
      have hv' := hv0.ex e
      have hm := List.mem_of_getElem? hb
      have hz : (([] : List Da) ++ ((flat 4 p.body).take i).flatMap fun s => (asg s).map Da.s).length ≤ 4680 := by
        rw [List.nil_append]
        refine Nat.le_trans (flatMap_len _ 2 _ fun s hs => ?_) (Nat.mul_le_mul_right 2 (Nat.le_trans (List.length_take_le' ..) hl))
        rw [List.length_map]
        exact asg_len hw (List.mem_of_mem_take hs)
      generalize (([] : List Da) ++ ((flat 4 p.body).take i).flatMap fun s => (asg s).map Da.s) = l0 at hz r ⊢
      have fin : ∀ {H2 : Hp} {us2 : List V} {x y : Option V} {ds : List Da}, Exs F H' H2 → H2 F = some (.lst us2) → Reps K H2 us2 (l0 ++ ds) → ds = (asg st).map Da.s → Acc K H0' (fun F σ => ∃ x y z, σ = [some v, some (.ref F), x, y, z]) (l0 ++ (asg st).map Da.s) [some v, some (.ref F), some v', x, y] H2 := fun x2 h2 r2 ed => ⟨F, _, exs_base hF e x2, hF, ⟨_, _, _, rfl⟩, h2, ed ▸ r2⟩
      refine s_if (et_tag (ev_var rfl) hv') (fun hB H2 e2 => ?_) (fun hB1 H2 e2 => ?_)
      · obtain ⟨x1, ee, rfl⟩ := tag_set hB
        have hv2 := hv'.ex e2
        rw [Stm.da] at hv2
        refine s_extR (e2 _ _ hf) (r.ex e2) (by simp; omega) (ev_var rfl) (ep_LR (ef_lcNT (b := [(x1, ee)]) (f := fun _ => true) (e := fun q => .s q.1) (g0 := fun q => .t [.s q.1, q.2]) (ev_ixR (i := 1) (ev_var rfl) hv2 rfl) (by simp) fun i q v2 Hb hb eb rb => ?_)) fun H3 us3 x3 h3 r3 => fin ((Ex.s e2).trans x3) h3 r3 rfl
        obtain ⟨t, w1, w2, rfl, ht, k1, k2⟩ := rep_two rb
        exact ⟨_, tgt_pair ht, rfl, et_yes, fun _ => ep_R (ev_var rfl) k1⟩
      · refine s_if (et_tag (ev_var rfl) (hv'.ex e2)) (fun hB H3 e3 => ?_) (fun hB2 H3 e3 => ?_)
        · obtain ⟨x1, a1, rfl⟩ := tag_pop hB
          have e23 := e2.trans e3
          have hv2 := hv'.ex e23
          rw [Stm.da] at hv2
          have hok := hP.ok _ hm
          have ha := hP.sz a1 (List.mem_append_right _ hok.2)
          refine s_extR (ds := [.s x1, .s (hsh a1)]) (e23 _ _ hf) (r.ex e23) (by simp; omega) (ev_var rfl) (ep_LR (er_lst (er_cons (ev_ixR (i := 1) (ev_var rfl) hv2 rfl) (er_cons (ep_Rs (ev_cat ev_c (ev_ixRs (i := 2) (ev_var rfl) hv2 rfl) (by show 1 + _ ≤ _; omega))) er_nil)) (by simp))) fun H4 us4 x4 h4 r4 => fin ((Ex.s e23).trans x4) h4 r4 rfl
        · refine s_if (et_tag (ev_var rfl) (hv'.ex (e2.trans e3))) (fun hB H4 e4 => ?_) (fun hB3 H4 e4 => ?_)
          · obtain ⟨ee, a1, rfl⟩ := tag_push hB
            have e24 := (e2.trans e3).trans e4
            have hv2 := hv'.ex e24
            rw [Stm.da] at hv2
            have hok := hP.ok _ hm
            have ha := hP.sz a1 (List.mem_append_right _ hok)
            refine s_appR (d := .s (hsh a1)) (e24 _ _ hf) (r.ex e24) (by omega) (ev_var rfl) (ep_Rs (ev_cat ev_c (ev_ixRs (i := 2) (ev_var rfl) hv2 rfl) (by show 1 + _ ≤ _; omega))) fun H5 us5 x5 h5 r5 => fin ((Ex.s e24).trans x5) h5 r5 rfl
          · have e24 := (e2.trans e3).trans e4
            refine s_when (et_tag (ev_var rfl) (hv'.ex e24)) (fun hB H5 e5 => ?_) (fun hB4 H5 e5 => ?_)
            · obtain ⟨c1, as1, ts1, p1, rfl⟩ := tag_call hB
              have e25 := e24.trans e5
              have hv2 := hv'.ex e25
              rw [Stm.da] at hv2
              have hts := (flat_wb hw hm).2
              refine s_extTR (ds := ts1.map Da.s) (e25 _ _ hf) (r.ex e25) (by rw [List.length_map]; omega) (ev_var rfl) (ev_ixR (i := 3) (ev_var rfl) hv2 rfl) fun H6 us6 x6 h6 r6 => fin ((Ex.s e25).trans x6) h6 r6 rfl
            · have e25 := e24.trans e5
              refine fin (ds := []) (Ex.s e25) (e25 _ _ hf) (by simpa using r.ex e25) ?_
              rw [asg_none hB1 hB2 hB3 hB4]
              rfl
    · rintro σ' H' ⟨F, us, e, hF, ⟨x, y, z, rfl⟩, hf, r⟩
      refine s_ret (ev_var rfl) fun H3 e3 => q F us H3 hF (e.trans e3) (e3 _ _ hf) ?_
      rw [List.map_flatMap]
      exact r.ex e3
end
end K88

set_option maxHeartbeats 4000000
namespace K88
open PySem L2 Evl
/-! ### tables of lists of texts by the procedures' names -/
def TabR (C : List Prc) (H : Hp) (M : Addr) (T : Str → List Str) : Prop := ∃ kvs, Rd H M (.dK kvs) ∧ ∀ p, p ∈ C → ∃ a, valV kvs (Sum.inr p.name) = some (.ref a) ∧ H a = some (.lst ((T p.name).map V.str))
theorem TabR.ex {C : List Prc} {H H' : Hp} {M : Addr} {T : Str → List Str} (h : TabR C H M T) (e : Ex H H') : TabR C H' M T := by
  obtain ⟨kvs, h1, h2⟩ := h
  refine ⟨kvs, ex_rd e h1, fun p hp => ?_⟩
  obtain ⟨a, h3, h4⟩ := h2 p hp
  exact ⟨a, h3, e _ _ h4⟩
def itemsOf (C : List Prc) (c : Str) : List (Bool × Str) := ((C.find? fun q => decide (q.name = c)).map Prc.items).getD []
/-- what a statement passes on to what T holds -/
def ponS (C : List Prc) (T : Str → List Str) : Stm → List Str
  | .call c as _ _ => ((itemsOf C c).zip as).flatMap fun x => if x.1.1 = true ∧ hsh x.1.2 ∈ T c then [hsh x.2.nm] else []
  | _ => []
def pon (C : List Prc) (T : Str → List Str) (p : Prc) : List Str := (flat 4 p.body).flatMap (ponS C T)
theorem find_of {C : List Prc} (h : OkC C) {p : Prc} (hp : p ∈ C) : C.find? (fun q => decide (q.name = p.name)) = some p := by
  have key : ∀ (D : List Prc), D.Pairwise (fun p q => ltS p.name q.name = true) → p ∈ D → D.find? (fun q => decide (q.name = p.name)) = some p := fun D => by
    induction D with
    | nil => exact fun _ h => absurd h (by simp)
    | cons q D ih =>
      intro hs hm
      obtain ⟨h1, h2⟩ := List.pairwise_cons.mp hs
      by_cases e : q.name = p.name
      · rw [List.find?_cons, decide_eq_true e]
        rcases List.mem_cons.mp hm with rfl | hm
        · rfl
        · have := h1 p hm
          rw [e, ltS_irrefl] at this
          cases this
      · rw [List.find?_cons, decide_eq_false e]
        rcases List.mem_cons.mp hm with rfl | hm
        · exact absurd rfl e
        · exact ih h2 hm
  exact key C h.srt hp
theorem mem_of_find {C : List Prc} {x : Str} {p : Prc} (h : C.find? (fun q => decide (q.name = x)) = some p) : p ∈ C ∧ p.name = x := ⟨List.mem_of_find?_eq_some h, of_decide_eq_true (by simpa using List.find?_some h)⟩
/-- a call's callee -/
theorem callee_of {C : List Prc} {p : Prc} (hP : OkP C p) (hC : OkC C) {c : Str} {as : List Arg} {ts : List Str} {o : Option Int} (hm : Stm.call c as ts o ∈ flat 4 p.body) : ∃ q, q ∈ C ∧ q.name = c ∧ C.find? (fun q => decide (q.name = c)) = some q ∧ itemsOf C c = q.items ∧ as.map Arg.isA = q.items.map (·.1) := by
  obtain ⟨_, _, q, hq, rfl, ha⟩ := hP.ok _ hm
  have hf := find_of hC hq
  exact ⟨q, hq, rfl, hf, by unfold itemsOf; rw [hf]; rfl, ha⟩
theorem ponS_len {C : List Prc} {T : Str → List Str} {p : Prc} (hP : OkP C p) (hC : OkC C) {s : Stm} (hm : s ∈ flat 4 p.body) : (ponS C T s).length ≤ 3 := by
  cases s with
  | call c as ts o =>
    obtain ⟨q, hq, _, _, hi, ha⟩ := callee_of hP hC hm
    simp only [ponS]
    rw [hi]
    refine Nat.le_trans (flatMap_len _ 1 _ fun x hx => ?_) ?_
    · split <;> simp
    · rw [List.length_zip, (hC.ok q hq).il]
      omega
  | _ => simp [ponS]
def spPassed (K : PySem.W.Frag) : Sp := fun vs H Q _ => ∃ (v w : V) (M : Addr) (C : List Prc) (T : Str → List Str) (p : Prc), vs = [v, .ref M, w] ∧ Rep K H v (coreDa C) ∧ OkC C ∧ p ∈ C ∧ Rep K H w p.da ∧ TabR C H M T ∧ RetLR K ((pon C T p).map Da.s) H Q
def spVar (K : PySem.W.Frag) : Sp := fun vs H Q _ => ∃ (v : V) (it : Bool × Str), vs = [v] ∧ Rep K H v (itemDa it) ∧ it.2.length ≤ 10 ∧ RetV (.str (if it.1 then hsh it.2 else it.2)) H Q
def spItems (K : PySem.W.Frag) : Sp := fun vs H Q _ => ∃ (v : V) (M : Addr) (C : List Prc) (T : Str → List Str) (p : Prc), vs = [v, .ref M] ∧ OkC C ∧ p ∈ C ∧ Rep K H v p.da ∧ TabR C H M T ∧
  RetLR K ((p.items.filter fun it => decide ((if it.1 then hsh it.2 else it.2) ∈ T p.name)).map itemDa) H Q
section
variable {P : Program} {w : World} {K : PySem.W.Frag} {mg : Str → Option Value} {base : Heap} {σ : L2.St} {H : Hp} {ta td : TE}
/-- a list out of such a table -/
theorem ep_tab {C : List Prc} {M : Addr} {T : Str → List Str} {p : Prc} (hp : p ∈ C) (hd : Ev td σ H (.ref M)) (hk : Ev ta σ H (.str p.name)) (h : TabR C H M T) : EvP (tDGet td ta) σ H (IsLR K ((T p.name).map Da.s)) := fun H1 e Q q =>
  hd H1 e _ fun H2 e2 => hk H2 (e.trans e2) _ fun H3 e3 => by
    obtain ⟨kvs, h1, h2⟩ := h.ex ((e.trans e2).trans e3)
    obtain ⟨a, h3, h4⟩ := h2 p hp
    refine ⟨M, .ref a, rfl, ?_, q _ H3 (e2.trans e3) ⟨a, _, rfl, h4, strs_reps⟩⟩
    rw [← h3]
    exact .inl ⟨kvs, Sum.inr p.name, h1, rfl, rfl⟩
theorem item_kind (b : Bool) : decide (ikind b = "array") = b := by cases b <;> decide +kernel
theorem sc_variable_of : FnScope ["item"] ["item"] (defScope (topS 6)) := ⟨rfl, rfl, rfl, by decide +kernel, rfl, by decide +kernel, by decide +kernel⟩
theorem ok_variable_of {f : Addr} {fd : FuncData} (F : FnP K "variable_of" "variable_of" (topS 6) f fd) (T : Bt mg) : FnOk P w K mg base CX0 1 f fd ["item"] (spVar K) := by
  refine F.ok sc_variable_of (fun vs H Q E h => ?_) (fun cdv A outer s H vs Q E hr h => ?_)
  · obtain ⟨v, it, rfl, _⟩ := h
    rfl
  · obtain ⟨v, it, rfl, hv, hz, q⟩ := h
    refine ⟨_, PSs.nox
      (pss_cons (ps_if (pt_cmpR op_eq (pe_ix (ix_tupK K rfl) (pv 0) pe_int (fun _ _ => rfl)) pe_str (nomark _)) (pss_one (ps_ret (pe_op op_add_str pe_str (pe_ix (ix_tupK K rfl) (pv 0) pe_int (fun _ _ => rfl))))) pss_nil)
      (pss_one (ps_ret (pe_ix (ix_tupK K rfl) (pv 0) pe_int (fun _ _ => rfl))))), ?_⟩
    unfold itemDa at hv
    refine q_when (et_strs (ev_ixRs (i := 0) (ev_var rfl) hv rfl) ev_c) (fun hB H1 e1 => ?_) (fun hB H1 e1 => ?_)
    · rw [item_kind] at hB
      rw [hB, if_pos rfl] at q
      exact s_ret (ev_cat ev_c (ev_ixRs (i := 1) (ev_var rfl) (hv.ex e1) rfl) (by show 1 + _ ≤ _; omega)) fun H2 e2 => q H2 (e1.trans e2)
    · rw [item_kind] at hB
      rw [hB, if_neg (by decide)] at q
      exact s_ret (ev_ixRs (i := 1) (ev_var rfl) (hv.ex e1) rfl) fun H2 e2 => q H2 (e1.trans e2)
theorem sc_passed_on : FnScope ["core", "moving", "proc", "found", "statement", "parameters", "parameter", "argument"] ["core", "moving", "proc"] (defScope (topS 4)) := ⟨rfl, rfl, rfl, by decide +kernel, rfl, by decide +kernel, by decide +kernel⟩
theorem ok_passed_on {f : Addr} {fd : FuncData} (F : FnP K "passed_on" "passed_on" (topS 4) f fd) (T : Bt mg) (h_statements_in : Has P w K mg base "statements_in" ["body"] 4 (spStmts K 4)) (h_proc_named : Has P w K mg base "proc_named" ["core", "name"] 1 (spProc K)) : FnOk P w K mg base CX0 5 f fd ["core", "moving", "proc"] (spPassed K) := by
  refine F.ok sc_passed_on (fun vs H Q E h => ?_) (fun cdv A outer s H vs Q E hr h => ?_)
  · obtain ⟨v, w, M, C, T, p, rfl, _⟩ := h
    rfl
  · obtain ⟨v, w, M, C, TT, p, rfl, hv, hC, hp, hw0, hT, q⟩ := h
    refine ⟨_, PSs.nox
      (pss_cons (ps_set (i := 3) sc_passed_on.nd rfl (Or.inl rfl) (pe_lst pa_nil))
      (pss_cons (ps_for PassesOwn.never rfl (pi_listK K rfl (pe_callH h_statements_in (hr.mono (by decide)) (by rfl) (pa_cons (pe_ix (ix_tupK K rfl) (pv 2) pe_int (fun _ _ => rfl)) pa_nil))) (pg_name (i := 4) sc_passed_on.nd rfl (Or.inl rfl)) (pss_one (ps_if (pt_cmpR op_eq (pe_ix (ix_tupK K rfl) (pv 4) pe_int (fun _ _ => rfl)) pe_str (nomark _)) (pss_cons (ps_set (i := 5) sc_passed_on.nd rfl (Or.inl rfl) (pe_ix (ix_tupK K rfl) (pe_callH h_proc_named (hr.mono (by decide)) (by rfl) (pa_cons (pv 0) (pa_cons (pe_ix (ix_tupK K rfl) (pv 4) pe_int (fun _ _ => rfl)) pa_nil))) pe_int (fun _ _ => rfl)))
      (pss_one (ps_for PassesOwn.never rfl (pi_zipAK K rfl (by rfl) T.m_zip (pa_cons (pv 5) (pa_cons (pe_ix (ix_tupK K rfl) (pv 4) pe_int (fun _ _ => rfl)) pa_nil))) (pg_tupK K rfl (n := 2) rfl (pgs_cons (pg_name (i := 6) sc_passed_on.nd rfl (Or.inl rfl)) (pgs_cons (pg_name (i := 7) sc_passed_on.nd rfl (Or.inl rfl)) pgs_nil))) (pss_one (ps_if (PW.pt (pw_and (pt_cmpR op_eq (pe_ix (ix_tupK K rfl) (pv 6) pe_int (fun _ _ => rfl)) pe_str (nomark _)) (pw_and1 (pt_cmpR op_in_seq (pe_op op_add_str pe_str (pe_ix (ix_tupK K rfl) (pv 6) pe_int (fun _ _ => rfl))) (pe_dget (hu_of hr) (pv 1) (pe_ix (ix_tupK K rfl) (pv 4) pe_int (fun _ _ => rfl)) (fun _ _ => rfl)) rfl)))) (pss_one (ps_expr (pe_bm PySem.F.plainAttrs_list PySem.F.slot_list_append PySem.F.type_list_append mt_append (pv 3) (pa_cons (pe_op op_add_str pe_str (pe_ix (ix_tupK K rfl) (pv 7) pe_int (fun _ _ => rfl))) pa_nil)))) pss_nil))))) pss_nil)))
      (pss_one (ps_ret (pv 3))))), ?_⟩
    have hP := hC.ok p hp
    have hw := hP.wb
    have hl := flat_len 4 p.body hw
    rw [fcap4] at hl
    rw [prc_da] at hw0
    refine q_asgR (ef_nil K) fun F us0 H1 hF e1 h1 r1 => ?_
    refine q_seq (s_accL (b := flat 4 p.body) (g := Stm.da) (f := fun s => (ponS C TT s).map Da.s) (l0 := []) (H0 := H) (SI := fun F σ => ∃ x1 x2 x3 x4, σ = [some v, some (.ref M), some w, some (.ref F), x1, x2, x3, x4]) (ef_callRA (er_cons (ev_ixR (i := 8) (ev_var rfl) (hw0.ex e1) rfl) er_nil) fun vs H1 e1 r Q' hQ E' => by
        obtain ⟨v8, rfl, r8⟩ := reps_one r
        exact ⟨v8, p.body, rfl, r8, hw, Nat.le_refl _, hQ⟩) ⟨F, us0, e1, hF, ⟨_, _, _, _, rfl⟩, h1, r1⟩ ?_ ?_)
    · rintro H0' i st v' σ' H' e0 _ hb hv0 ⟨F, us, e, hF, ⟨x1, x2, x3, x4, rfl⟩, hf, r⟩
      have hv' := hv0.ex e
      have hm := List.mem_of_getElem? hb
      have hz : (([] : List Da) ++ ((flat 4 p.body).take i).flatMap fun s => (ponS C TT s).map Da.s).length ≤ 7020 := by
        rw [List.nil_append]
        refine Nat.le_trans (flatMap_len _ 3 _ fun s hs => ?_) (Nat.mul_le_mul_right 3 (Nat.le_trans (List.length_take_le' ..) hl))
        rw [List.length_map]
        exact ponS_len hP hC (List.mem_of_mem_take hs)
      generalize (([] : List Da) ++ ((flat 4 p.body).take i).flatMap fun s => (ponS C TT s).map Da.s) = l0 at hz r ⊢
      refine s_when (et_tag (ev_var rfl) hv') (fun hB H2 e2 => ?_) (fun hB H2 e2 => ?_)
      · obtain ⟨c, as, ts, o, rfl⟩ := tag_call hB
        obtain ⟨p2, hq2, hn2, hf2, hi2, ha2⟩ := callee_of hP hC hm
        subst hn2
        have hok := (hP.ok _ hm).2.1
        have hv2 := hv'.ex e2
        rw [Stm.da] at hv2
        have hcore : Rep K H2 v (coreDa C) := hv.ex (e0.trans (e.trans e2))
        refine q_asgP (P := fun v H => Rep K H v (.t (p2.items.map itemDa))) (fun H3 e3 Q3 q3 => ?_) fun vp H3 e3 hvp => ?_
        · refine (ep_call3 (K := K) (D := p2.da) (er_cons (ep_R (ev_var rfl) hcore) (er_cons (ep_Rs (ev_ixRs (i := 1) (ev_var rfl) hv2 rfl)) er_nil)) (fun vs H4 e4 r Q' hQ E' => ?_) (fun v4 H4 e4 r4 => ?_)) H3 e3 Q3 q3
          · obtain ⟨u1, u2, rfl, k1, k2⟩ := reps_two r
            rw [rep_str k2]
            exact ⟨u1, C, p2.name, p2, rfl, k1, hC.n6, hf2, hQ⟩
          · rw [prc_da] at r4
            exact ev_ixR (i := 1) (ev_c (v := v4)) r4 rfl
        · have e23 := e2.trans e3
          have hv3 := hv2.ex e3
          refine s_accZP (H0 := H0') (b := p2.items) (g1 := itemDa) (b2 := as) (g2 := Arg.da) (f := fun x => if x.1.1 = true ∧ hsh x.1.2 ∈ TT p2.name then [Da.s (hsh x.2.nm)] else []) (l0 := l0) (SI := fun F σ => ∃ x3 x4 x5, σ = [some v, some (.ref M), some w, some (.ref F), some v', x3, x4, x5]) (er_cons (ep_R (ev_var rfl) hvp) (er_cons (ev_ixR (i := 2) (ev_var rfl) hv3 rfl) er_nil)) ⟨F, us, e.trans e23, hF, ⟨_, _, _, rfl⟩, e23 _ _ hf, r.ex e23⟩ ?_ ?_
          · rintro H0'' i' x va vb σ4 H4 e04 kp hx ra0 rb0 ⟨F4, us4, e4, hF4, ⟨y1, y2, y3, rfl⟩, hf4, r4⟩
            obtain ⟨it, ar⟩ := x
            have hx' := List.getElem?_zip_eq_some.mp hx
            have him : it ∈ p2.items := List.mem_of_getElem? hx'.1
            have ham : ar ∈ as := List.mem_of_getElem? hx'.2
            have hkind : ar.isA = it.1 := by
              have h1 : (as.map Arg.isA)[i']? = some ar.isA := by rw [List.getElem?_map, hx'.2]; rfl
              rw [ha2, List.getElem?_map, hx'.1] at h1
              exact (Option.some.inj h1).symm
            have hz4 : (l0 ++ ((p2.items.zip as).take i').flatMap fun x => if x.1.1 = true ∧ hsh x.1.2 ∈ TT p2.name then [Da.s (hsh x.2.nm)] else []).length ≤ 7030 := by
              rw [List.length_append]
              have : (((p2.items.zip as).take i').flatMap fun x => if x.1.1 = true ∧ hsh x.1.2 ∈ TT p2.name then [Da.s (hsh x.2.nm)] else []).length ≤ 3 * 1 := by
                refine Nat.le_trans (flatMap_len _ 1 _ fun x hx => by split <;> simp) (Nat.mul_le_mul_right 1 (Nat.le_trans (List.length_take_le' ..) ?_))
                rw [List.length_zip, (hC.ok p2 hq2).il]
                omega
              omega
            generalize (l0 ++ ((p2.items.zip as).take i').flatMap fun x => if x.1.1 = true ∧ hsh x.1.2 ∈ TT p2.name then [Da.s (hsh x.2.nm)] else []) = l4 at hz4 r4 ⊢
            have ra2 : Rep K H4 va (.t [.s (ikind it.1), .s it.2]) := ra0.ex e4
            have hlen := (hC.ok p2 hq2).sz it.2 (by
              have := (hC.ok p2 hq2).ia it him
              split at this
              · exact List.mem_append_right _ this
              · exact List.mem_append_left _ this)
            have hT4 : TabR C H4 M TT := hT.ex (e0.trans (e04.trans e4))
            have hv4 := (kp _ _ hv3).ex e4
            refine s_when (b := decide (it.1 = true ∧ hsh it.2 ∈ TT p2.name)) (et_is (et_and (et_strs (ev_ixRs (i := 0) (ev_var rfl) ra2 rfl) ev_c) fun _ => et_test (ev_inStrs (neg := false) (ev_cat ev_c (ev_ixRs (i := 1) (ev_var rfl) ra2 rfl) (by show 1 + _ ≤ _; omega)) (ep_tab (K := K) (C := C) hq2 (ev_var rfl) (ev_ixRs (i := 1) (ev_var rfl) hv4 rfl) hT4))) ?_) (fun hB H5 e5 => ?_) (fun hB H5 e5 => ?_)
            · rw [item_kind, Bool.decide_and, Bool.decide_eq_true]
              rfl
            · have hB' := of_decide_eq_true hB
              cases ar with
              | num x => rw [hB'.1] at hkind; cases hkind
              | arr x =>
                have hxl := hP.sz x (List.mem_append_right _ (hok x ham))
                have rb2 : Rep K H5 vb (.t [.s "array", .s x]) := rb0.ex (e4.trans e5)
                refine s_appR (d := .s (hsh x)) (e5 _ _ hf4) (r4.ex e5) (by omega) (ev_var rfl) (ep_Rs (ev_cat ev_c (ev_ixRs (i := 1) (ev_var rfl) rb2 rfl) (by show 1 + _ ≤ _; omega))) fun H6 us6 x6 h6 r6 => ⟨F4, us6, exs_base hF4 (e4.trans e5) x6, hF4, ⟨_, _, _, rfl⟩, h6, ?_⟩
                rw [if_pos hB']
                exact r6
            · have hB' := of_decide_eq_false hB
              refine ⟨F4, us4, e4.trans e5, hF4, ⟨_, _, _, rfl⟩, e5 _ _ hf4, ?_⟩
              rw [if_neg hB', List.append_nil]
              exact r4.ex e5
          · rintro σ4 H4 ⟨F4, us4, e4, hF4, ⟨y1, y2, y3, rfl⟩, hf4, r4⟩
            refine ⟨F4, us4, e4, hF4, ⟨_, _, _, _, rfl⟩, hf4, ?_⟩
            have ee : (ponS C TT (.call p2.name as ts o)).map Da.s = (p2.items.zip as).flatMap fun x => if x.1.1 = true ∧ hsh x.1.2 ∈ TT p2.name then [Da.s (hsh x.2.nm)] else [] := by
              simp only [ponS]
              rw [hi2, List.map_flatMap]
              congr 1
              funext x
              split <;> rfl
            rw [ee]
            exact r4
      · refine ⟨F, us, e.trans e2, hF, ⟨_, _, _, _, rfl⟩, e2 _ _ hf, ?_⟩
        have ee : ponS C TT st = [] := by
          cases st with
          | call c as ts o => exact absurd rfl (of_decide_eq_false hB)
          | _ => rfl
        rw [ee, List.map_nil, List.append_nil]
        exact r.ex e2
    · rintro σ' H' ⟨F, us, e, hF, ⟨x1, x2, x3, x4, rfl⟩, hf, r⟩
      refine s_ret (ev_var rfl) fun H3 e3 => q F us H3 hF (e.trans e3) (e3 _ _ hf) ?_
      unfold pon
      rw [List.map_flatMap]
      exact r.ex e3
theorem sc_moving_items : FnScope ["proc", "moving", "item"] ["proc", "moving"] (defScope (topS 7)) := ⟨rfl, rfl, rfl, by decide +kernel, rfl, by decide +kernel, by decide +kernel⟩
theorem ok_moving_items {f : Addr} {fd : FuncData} (F : FnP K "moving_items" "moving_items" (topS 7) f fd) (T : Bt mg) (h_variable_of : Has P w K mg base "variable_of" ["item"] 1 (spVar K)) : FnOk P w K mg base CX0 2 f fd ["proc", "moving"] (spItems K) := by
  refine F.ok sc_moving_items (fun vs H Q E h => ?_) (fun cdv A outer s H vs Q E hr h => ?_)
  · obtain ⟨v, M, C, T, p, rfl, _⟩ := h
    rfl
  · obtain ⟨v, M, C, TT, p, rfl, hC, hp, hv, hT, q⟩ := h
    refine ⟨_, PSs.nox
      (pss_one (ps_ret (pe_lc (own := [("item", 2)])  rfl sc_moving_items.nd  (pi_tupK K rfl (pe_ix (ix_tupK K rfl) (pv 0) pe_int (fun _ _ => rfl))) (blkOk_by (own := [("item", 2)]) (N := ["proc", "moving", "item"]) (sc := defScope (topS 7)) (by decide +kernel)) (fun _ _ _ _ _ => (pg_name (i := 2) sc_moving_items.nd rfl (Or.inl rfl))) (fun _ _ _ _ _ => (pts_one (pt_cmpR (op_in_seqK K rfl) (pe_callH h_variable_of (hr.mono (by decide)) (by rfl) (pa_cons (pv 2) pa_nil)) (pe_dget (hu_of hr) (pv 1) (pe_ix (ix_tupK K rfl) (pv 0) pe_int (fun _ _ => rfl)) (fun _ _ => rfl)) rfl))) (fun _ _ _ _ _ => (pv 2))))), ?_⟩
    rw [prc_da] at hv
    have hP := hC.ok p hp
    refine s_retR (ef_lcNT (b := p.items) (g0 := itemDa) (e := itemDa) (f := fun it => decide ((if it.1 then hsh it.2 else it.2) ∈ TT p.name)) (ev_ixR (i := 1) (ev_var rfl) hv rfl) (by rw [hP.il]; omega) fun i it v' Hb hb eb rb => ⟨_, tgt_name, rfl, ?_, fun _ => ep_R (ev_var rfl) rb⟩) q
    have hlen := hP.sz it.2 (by
      have := hP.ia it (List.mem_of_getElem? hb)
      split at this
      · exact List.mem_append_right _ this
      · exact List.mem_append_left _ this)
    exact et_test (ev_inStrs (neg := false) (ev_callV (ea_cons (ev_var rfl) ea_nil) fun H1 e1 Q' hQ E' => ⟨v', it, rfl, rb.ex e1, hlen, hQ⟩) (ep_tab (K := K) (C := C) hp (ev_var rfl) (ev_ixRs (i := 0) (ev_var rfl) (hv.ex eb) rfl) (hT.ex eb)))
end
end K88

set_option maxHeartbeats 4000000
namespace K88
open PySem L2 Evl
/-! ### tables that are changed: each name's list at an address of its own -/
def TabS (N : List Str) (H0 H : Hp) (M : Addr) (T : Str → List Str) : Prop := ∃ (kvs : List (Key × V)) (ad : Str → Addr), H M = some (.dK kvs) ∧ H0 M = none ∧ kvs.map (·.1) = N.map Sum.inr ∧
  (∀ x, x ∈ N → valV kvs (Sum.inr x) = some (.ref (ad x)) ∧ H (ad x) = some (.lst ((T x).map V.str)) ∧ H0 (ad x) = none) ∧ ∀ x, x ∈ N → ∀ y, y ∈ N → ad x = ad y → x = y
theorem TabS.r {C : List Prc} {H0 H : Hp} {M : Addr} {T : Str → List Str} (h : TabS (C.map Prc.name) H0 H M T) : TabR C H M T := by
  obtain ⟨kvs, ad, h1, _, _, h2, _⟩ := h
  exact ⟨kvs, .inl h1, fun p hp => ⟨ad p.name, (h2 _ (List.mem_map_of_mem hp)).1, (h2 _ (List.mem_map_of_mem hp)).2.1⟩⟩
theorem TabS.ex {N : List Str} {H0 H H' : Hp} {M : Addr} {T : Str → List Str} (h : TabS N H0 H M T) (e : Ex H H') : TabS N H0 H' M T := by
  obtain ⟨kvs, ad, h1, h0, hl, h2, h3⟩ := h
  exact ⟨kvs, ad, e _ _ h1, h0, hl, fun x hx => ⟨(h2 x hx).1, e _ _ (h2 x hx).2.1, (h2 x hx).2.2⟩, h3⟩
theorem TabS.base {N : List Str} {H0 H0' H : Hp} {M : Addr} {T : Str → List Str} (h : TabS N H0' H M T) (e : Ex H0 H0') : TabS N H0 H M T := by
  obtain ⟨kvs, ad, h1, h0, hl, h2, h3⟩ := h
  exact ⟨kvs, ad, h1, fresh_back e h0, hl, fun x hx => ⟨(h2 x hx).1, (h2 x hx).2.1, fresh_back e (h2 x hx).2.2⟩, h3⟩
/-- a new object stands apart from it -/
theorem TabS.sep {N : List Str} {H0 H : Hp} {M L : Addr} {T : Str → List Str} {o : HO} (h : TabS N H0 H M T) (hL : H L = none) : TabS N (upd H0 L o) H M T := by
  obtain ⟨kvs, ad, h1, h0, hl, h2, h3⟩ := h
  refine ⟨kvs, ad, h1, ?_, hl, fun x hx => ⟨(h2 x hx).1, (h2 x hx).2.1, ?_⟩, h3⟩
  · rw [upd_ne (fun c => by rw [c, hL] at h1; cases h1)]; exact h0
  · rw [upd_ne (fun c => by have := (h2 x hx).2.1; rw [c, hL] at this; cases this)]; exact (h2 x hx).2.2
/-- one more in a name's list -/
theorem TabS.app {N : List Str} {H0 H : Hp} {M : Addr} {T : Str → List Str} {x z : Str} (h : TabS N H0 H M T) (hx : x ∈ N) : ∃ l, H l = some (.lst ((T x).map V.str)) ∧ H0 l = none ∧
    (∀ (td ta : TE) (σ : L2.St), Ev td σ H (.ref M) → Ev ta σ H (.str x) → Ev (tDGet td ta) σ H (.ref l)) ∧ ∀ H1, Ex H H1 → TabS N H0 (upd H1 l (.lst ((T x).map V.str ++ [.str z]))) M (fun y => if y = x then T y ++ [z] else T y) := by
  obtain ⟨kvs, ad, h1, h0, hl, h2, h3⟩ := h
  obtain ⟨a1, a2, a3⟩ := h2 x hx
  refine ⟨ad x, a2, a3, fun td ta σ hd hk H2 e Q q => hd H2 e _ fun H3 e3 => hk H3 (e.trans e3) _ fun H4 e4 => ⟨M, .ref (ad x), rfl, ?_, q H4 (e3.trans e4)⟩, fun H1 e => ⟨kvs, ad, ?_, h0, hl, fun y hy => ?_, h3⟩⟩
  · rw [← a1]
    exact DGet.k (k := Sum.inr x) (((e.trans e3).trans e4) _ _ h1)
  · rw [upd_ne (fun e => by rw [e, a2] at h1; cases h1)]
    exact e _ _ h1
  · obtain ⟨b1, b2, b3⟩ := h2 y hy
    refine ⟨b1, ?_, b3⟩
    dsimp only
    by_cases e2 : y = x
    · subst e2
      rw [upd_same, if_pos rfl, List.map_append]
      rfl
    · rw [upd_ne (fun c => e2 (h3 y hy x hx c)), if_neg e2]
      exact e _ _ b2
theorem valV_key8 {kvs : List (Key × V)} {k : Key} (h : k ∉ kvs.map (·.1)) : valV kvs k = none := by
  unfold valV
  rw [List.find?_eq_none.mpr fun p hp c => h (by
    have := of_decide_eq_true c
    exact this ▸ List.mem_map_of_mem (f := (·.1)) hp)]
  rfl
theorem TabS.put {N : List Str} {H0 H H1 : Hp} {M L : Addr} {T : Str → List Str} {x : Str} {kvs : List (Key × V)} {ad : Str → Addr} (h1 : H M = some (.dK kvs)) (h0 : H0 M = none) (hl : kvs.map (·.1) = N.map Sum.inr)
    (h2 : ∀ x, x ∈ N → valV kvs (Sum.inr x) = some (.ref (ad x)) ∧ H (ad x) = some (.lst ((T x).map V.str)) ∧ H0 (ad x) = none) (h3 : ∀ x, x ∈ N → ∀ y, y ∈ N → ad x = ad y → x = y) (hx : x ∉ N) (e : Ex H H1) (hL : H L = none) (hL1 : H1 L = some (.lst ((T x).map V.str))) (hL0 : H0 L = none) :
    TabS (N ++ [x]) H0 (upd H1 M (.dK (putK kvs (Sum.inr x) (.ref L)))) M T := by
  have hML : L ≠ M := fun z => by rw [z, h1] at hL; cases hL
  refine ⟨putK kvs (Sum.inr x) (.ref L), fun y => if y = x then L else ad y, upd_same, h0, ?_, fun y hy => ?_, fun y hy z hz => ?_⟩
  · rw [putK_new _ (valV_key8 (k := Sum.inr x) ?_), List.map_append, List.map_append, hl]
    · rfl
    · rw [hl]
      intro hm
      obtain ⟨y, hy, e⟩ := List.mem_map.mp hm
      exact hx (Sum.inr.inj e ▸ hy)
  · rw [valV_put]
    dsimp only
    by_cases e2 : y = x
    · subst e2
      rw [if_pos rfl, if_pos rfl, upd_ne hML]
      exact ⟨rfl, hL1, hL0⟩
    · have hy' : y ∈ N := by
        rcases List.mem_append.mp hy with h | h
        · exact h
        · exact absurd (List.mem_singleton.mp h) e2
      rw [if_neg (fun c => e2 (Sum.inr.inj c)), if_neg e2]
      obtain ⟨b1, b2, b3⟩ := h2 y hy'
      refine ⟨b1, ?_, b3⟩
      rw [upd_ne (fun c => by rw [c, h1] at b2; cases b2)]
      exact e _ _ b2
  · have ne : ∀ u, u ∈ N → ad u ≠ L := fun u hu c => by
      have := (h2 u hu).2.1
      rw [c, hL] at this
      cases this
    have inN : ∀ u, u ∈ N ++ [x] → u ≠ x → u ∈ N := fun u hu hne => by
      rcases List.mem_append.mp hu with h | h
      · exact h
      · exact absurd (List.mem_singleton.mp h) hne
    show (if y = x then L else ad y) = (if z = x then L else ad z) → y = z
    by_cases ey : y = x
    · by_cases ez : z = x
      · exact fun _ => ey.trans ez.symm
      · rw [if_pos ey, if_neg ez]
        exact fun c => absurd c.symm (ne z (inN z hz ez))
    · by_cases ez : z = x
      · rw [if_neg ey, if_pos ez]
        exact fun c => absurd c (ne y (inN y hy ey))
      · rw [if_neg ey, if_neg ez]
        exact h3 y (inN y hy ey) z (inN z hz ez)
section
variable {K : PySem.W.Frag} {σ : L2.St} {H : Hp} {tl tk tv : TE} {De : Ends} {a : Addr} {us : List V} {C : List Prc} {vs : List Nat}
/-- name = {p[0]: f(p) for p in core} -/
theorem s_dcTab {i j : Nat} {T : Str → List Str} (hC : OkC C) (h : Ev tl σ H (.ref a)) (hx : H a = some (.tup us)) (hr : Reps K H us (C.map Prc.da)) (hw : ∀ x, wipe ((wipe σ vs).set j (some x)) vs = wipe σ vs)
    (hk : ∀ (p : Prc) (v : V) (Hb : Hp), p ∈ C → Ex H Hb → Rep K Hb v p.da → Ev tk ((wipe σ vs).set j (some v)) Hb (.str p.name)) (hv : ∀ (p : Prc) (v : V) (Hb : Hp), p ∈ C → Ex H Hb → Rep K Hb v p.da → EvF tv ((wipe σ vs).set j (some v)) Hb (NewLR K ((T p.name).map Da.s)))
    (k : ∀ M H2, Ex H H2 → TabS (C.map Prc.name) H H2 M T → De.nx (σ.set i (some (.ref M))) H2) : tAsg (tDc (iTup K tl) (gName j) tYes tk tv vs) (gName i) De σ H := by
  refine h H (Ex.refl _) _ fun H1 e1 => ⟨a, rfl, ⟨us, st_of (e1 _ _ hx)⟩, fun D hD => ?_⟩
  have hl : us.length = C.length := by rw [hr.len, List.length_map]
  refine dc_tup (xs := us) (fun n H' => Ex H1 H' ∧ TabS ((C.take n).map Prc.name) H1 H' D T) ⟨Ex.new hD, [], fun _ => 0, upd_same, hD, by simp, fun x hx => by simp at hx, fun x hx => by simp at hx⟩ (fun n H' _ p => st_of (p.1 _ _ (e1 _ _ hx))) (fun n v H' hv0 p => ?_) (fun H' p => ?_)
  · obtain ⟨e2, kvs, ad, t1, t0, tl', t2, t3⟩ := p
    obtain ⟨d, hd, rd⟩ := hr.get hv0
    rw [List.getElem?_map, Option.map_eq_some_iff] at hd
    obtain ⟨p, hp, rfl⟩ := hd
    have hpC := List.mem_of_getElem? hp
    have e02 := e1.trans e2
    show wipe ((wipe σ vs).set j (some v)) vs = wipe σ vs ∧ tk ((wipe σ vs).set j (some v)) H' _
    refine ⟨hw v, hk p v H' hpC e02 (rd.ex e02) H' (Ex.refl _) _ fun H3 e3 => ?_⟩
    refine hv p v H3 hpC (e02.trans e3) (rd.ex (e02.trans e3)) H3 (Ex.refl _) _ fun x H4 e4 ⟨L, ws, hx, hL, hL4, rL⟩ => ?_
    subst hx
    rw [reps_strs rL] at hL4
    have hsub : ∀ u, u ∈ (C.take n).map Prc.name → ∃ q, q ∈ C.take n ∧ q.name = u := fun u hu => by
      obtain ⟨q, hq, e⟩ := List.mem_map.mp hu
      exact ⟨q, hq, e⟩
    refine ⟨kvs, Sum.inr p.name, rfl, (e3.trans e4) _ _ t1, ?_, (e2.trans (e3.trans e4)).mut hD, ?_⟩
    · have tl' := congrArg List.length tl'
      rw [List.length_map, List.length_map, List.length_map] at tl'
      have := List.length_take_le n C
      have := hC.n6
      have := List.length_take_le' n C
      exact sz_lt (by omega)
    · rw [take_succ_of hp, List.map_append]
      refine TabS.put (e3 _ _ t1) t0 tl' (fun x hx => ⟨(t2 x hx).1, e3 _ _ (t2 x hx).2.1, (t2 x hx).2.2⟩) t3 ?_ e4 hL hL4 (fresh_back (e2.trans e3) hL)
      intro hm
      obtain ⟨q, hq, e⟩ := List.mem_map.mp hm
      obtain ⟨m, hm2, e5⟩ := List.getElem_of_mem hq
      have hmn : m < n := by rw [List.length_take] at hm2; omega
      have hmC : m < C.length := by rw [List.length_take] at hm2; omega
      have hnC : n < C.length := (List.getElem?_eq_some_iff.mp hp).1
      have e6 : C[m] = q := by rw [← e5, List.getElem_take]
      have := List.pairwise_iff_getElem.mp hC.srt m n hmC hnC hmn
      rw [e6, e, (List.getElem?_eq_some_iff.mp hp).2, ltS_irrefl] at this
      cases this
  · obtain ⟨e2, t⟩ := p
    rw [hl, List.take_length] at t
    obtain ⟨kvs, ad, t1, t0, tl', t2, t3⟩ := t
    refine k D H' (e1.trans e2) ⟨kvs, ad, t1, fresh_back e1 hD, tl', fun x hx => ⟨(t2 x hx).1, (t2 x hx).2.1, fresh_back e1 (t2 x hx).2.2⟩, t3⟩
end
end K88

set_option maxHeartbeats 4000000
namespace K88
open PySem L2 Evl
/-! ### what moves: the program's names (lengths with the sign), the law's names -/
inductive MvT (C : List Prc) : Str → Str → Prop
  | base {p : Prc} {x : Str} : p ∈ C → x ∈ (flat 4 p.body).flatMap asg → MvT C p.name x
  | step {p : Prc} {c : Str} {as : List Arg} {ts : List Str} {o : Option Int} {it : Bool × Str} {ar : Arg} : p ∈ C → Stm.call c as ts o ∈ flat 4 p.body → (it, ar) ∈ (itemsOf C c).zip as → it.1 = true → MvT C c (hsh it.2) → MvT C p.name (hsh ar.nm)
inductive MvL (C : List Prc) : Str → Str → Prop
  | base {p : Prc} {x : Str} : p ∈ C → x ∈ (flat 4 p.body).flatMap chg → MvL C p.name x
  | step {p : Prc} {c : Str} {as : List Arg} {ts : List Str} {o : Option Int} {it : Bool × Str} {ar : Arg} : p ∈ C → Stm.call c as ts o ∈ flat 4 p.body → (it, ar) ∈ (itemsOf C c).zip as → it.1 = true → MvL C c it.2 → MvL C p.name ar.nm
noncomputable def mvB (C : List Prc) (n x : Str) : Bool := @decide (MvL C n x) (Classical.propDecidable _)
theorem mvB_iff {C : List Prc} {n x : Str} : mvB C n x = true ↔ MvL C n x := @decide_eq_true_iff _ (Classical.propDecidable _)
theorem hsh_inj {x y : Str} (h : hsh x = hsh y) : x = y := by
  unfold hsh at h
  have h1 : ((("#" : Str) ++ x).cps).toList = ((("#" : Str) ++ y).cps).toList := by rw [h]
  have h2 : (("#" : Str).cps ++ x.cps).toList = (("#" : Str).cps ++ y.cps).toList := h1
  rw [Array.toList_append, Array.toList_append] at h2
  exact str_ext8 (List.append_cancel_left h2)
/-- an argument beside its parameter -/
theorem zip_kind {C : List Prc} {p : Prc} (hP : OkP C p) (hC : OkC C) {c : Str} {as : List Arg} {ts : List Str} {o : Option Int} (hm : Stm.call c as ts o ∈ flat 4 p.body) {it : Bool × Str} {ar : Arg} (hz : (it, ar) ∈ (itemsOf C c).zip as) (hi : it.1 = true) :
    ∃ q, q ∈ C ∧ q.name = c ∧ it ∈ q.items ∧ it.2 ∈ q.av ∧ ar.nm ∈ p.av := by
  obtain ⟨q, hq, hn, _, hi2, ha⟩ := callee_of hP hC hm
  rw [hi2] at hz
  obtain ⟨i, hil, e⟩ := List.getElem_of_mem hz
  have h1 : (q.items.zip as)[i]? = some (it, ar) := by rw [List.getElem?_eq_getElem hil, e]
  obtain ⟨h2, h3⟩ := List.getElem?_zip_eq_some.mp h1
  have h4 : (as.map Arg.isA)[i]? = some ar.isA := by rw [List.getElem?_map, h3]; rfl
  rw [ha, List.getElem?_map, h2] at h4
  have h5 : it.1 = ar.isA := Option.some.inj h4
  have hit := List.mem_of_getElem? h2
  have h6 := (hC.ok q hq).ia it hit
  rw [hi, if_pos rfl] at h6
  refine ⟨q, hq, hn, hit, h6, ?_⟩
  rw [hi] at h5
  have := hP.ok _ hm
  cases ar with
  | num x => cases h5
  | arr x => exact this.2.1 x (List.mem_of_getElem? h3)
theorem pon_mem {C : List Prc} {T : Str → List Str} {p : Prc} {x : Str} : x ∈ pon C T p ↔ ∃ c as ts o it ar, Stm.call c as ts o ∈ flat 4 p.body ∧ (it, ar) ∈ (itemsOf C c).zip as ∧ it.1 = true ∧ hsh it.2 ∈ T c ∧ x = hsh ar.nm := by
  unfold pon
  rw [List.mem_flatMap]
  constructor
  · rintro ⟨s, hs, hx⟩
    cases s with
    | call c as ts o =>
      simp only [ponS] at hx
      rw [List.mem_flatMap] at hx
      obtain ⟨⟨it, ar⟩, hz, hx⟩ := hx
      by_cases hc : it.1 = true ∧ hsh it.2 ∈ T c
      · rw [if_pos hc, List.mem_singleton] at hx
        exact ⟨c, as, ts, o, it, ar, hs, hz, hc.1, hc.2, hx⟩
      · rw [if_neg hc] at hx
        cases hx
    | _ => simp [ponS] at hx
  · rintro ⟨c, as, ts, o, it, ar, hs, hz, h1, h2, rfl⟩
    refine ⟨_, hs, ?_⟩
    simp only [ponS]
    rw [List.mem_flatMap]
    exact ⟨(it, ar), hz, by rw [if_pos ⟨h1, h2⟩]; exact List.mem_singleton.mpr rfl⟩
def SoundT (C : List Prc) (T : Str → List Str) : Prop := ∀ p, p ∈ C → ∀ x, x ∈ T p.name → MvT C p.name x
def BaseT (C : List Prc) (T : Str → List Str) : Prop := ∀ p, p ∈ C → ∀ x, x ∈ (flat 4 p.body).flatMap asg → x ∈ T p.name
def ClosT (C : List Prc) (T : Str → List Str) : Prop := ∀ p, p ∈ C → ∀ x, x ∈ pon C T p → x ∈ T p.name
theorem pon_sound {C : List Prc} (hC : OkC C) {T : Str → List Str} (h : SoundT C T) {p : Prc} (hp : p ∈ C) {x : Str} (hx : x ∈ pon C T p) : MvT C p.name x := by
  obtain ⟨c, as, ts, o, it, ar, hs, hz, h1, h2, rfl⟩ := pon_mem.mp hx
  obtain ⟨q, hq, rfl, _⟩ := zip_kind (hC.ok p hp) hC hs hz h1
  exact .step hp hs hz h1 (h q hq _ h2)
theorem pon_av {C : List Prc} (hC : OkC C) {T : Str → List Str} {p : Prc} (hp : p ∈ C) {x : Str} (hx : x ∈ pon C T p) : ∃ y, y ∈ p.av ∧ x = hsh y := by
  obtain ⟨c, as, ts, o, it, ar, hs, hz, h1, h2, rfl⟩ := pon_mem.mp hx
  obtain ⟨q, hq, rfl, _, _, h⟩ := zip_kind (hC.ok p hp) hC hs hz h1
  exact ⟨_, h, rfl⟩
theorem final_iff {C : List Prc} (hC : OkC C) {T : Str → List Str} (h1 : SoundT C T) (h2 : BaseT C T) (h3 : ClosT C T) {p : Prc} (hp : p ∈ C) {x : Str} : x ∈ T p.name ↔ MvT C p.name x := by
  refine ⟨h1 p hp x, fun h => ?_⟩
  suffices ∀ n z, MvT C n z → z ∈ T n from this _ _ h
  intro n z h
  induction h with
  | base hq hx => exact h2 _ hq _ hx
  | step hq hs hz hi _ ih => exact h3 _ hq _ (pon_mem.mpr ⟨_, _, _, _, _, _, hs, hz, hi, ih, rfl⟩)
/-! the two agree -/
theorem mvT_L {C : List Prc} (hC : OkC C) {n z : Str} (h : MvT C n z) : (∀ y, z = hsh y → MvL C n y) ∧ ((∀ y, z ≠ hsh y) → MvL C n z) := by
  induction h with
  | @base p x hp hx =>
    have hP := hC.ok p hp
    obtain ⟨s, hs, hx⟩ := List.mem_flatMap.mp hx
    have ok := hP.ok s hs
    have iv : ∀ u, u ∈ p.iv → x = u → (∀ y, x = hsh y → MvL C p.name y) := fun u hu e y e2 => absurd (e.symm.trans e2) (hP.sh u (List.mem_append_left _ hu) y)
    have av : ∀ a, x = hsh a → a ∈ chg s → (∀ y, x = hsh y → MvL C p.name y) ∧ ((∀ y, x ≠ hsh y) → MvL C p.name x) := fun a e ha =>
      ⟨fun y e2 => by rw [← hsh_inj (e.symm.trans e2)]; exact .base hp (List.mem_flatMap.mpr ⟨s, hs, ha⟩), fun hn => absurd e (hn a)⟩
    have pl : x ∈ chg s → (∀ y, x ≠ hsh y) → MvL C p.name x := fun hc _ => .base hp (List.mem_flatMap.mpr ⟨s, hs, hc⟩)
    cases s with
    | set u e =>
      have e1 := List.mem_singleton.mp hx
      exact ⟨iv u ok e1, pl (by rw [e1]; exact List.mem_singleton.mpr rfl)⟩
    | pop u a =>
      rcases List.mem_cons.mp hx with e1 | hx
      · exact ⟨iv u ok.1 e1, pl (by rw [e1]; exact List.mem_cons_self)⟩
      · exact av a (List.mem_singleton.mp hx) (List.mem_cons_of_mem _ (List.mem_singleton.mpr rfl))
    | push e a => exact av a (List.mem_singleton.mp hx) (List.mem_singleton.mpr rfl)
    | call c as ts o => exact ⟨iv x (ok.1 x hx) rfl, pl hx⟩
    | _ => cases hx
  | @step p c as ts o it ar hp hs hz hi _ ih => exact ⟨fun y e => by rw [← hsh_inj e]; exact .step hp hs hz hi (ih.1 _ rfl), fun hn => absurd rfl (hn ar.nm)⟩
theorem mvL_T {C : List Prc} (hC : OkC C) {n z : Str} (h : MvL C n z) : ∀ p, p ∈ C → p.name = n → (z ∈ p.av → MvT C n (hsh z)) ∧ (z ∈ p.iv → MvT C n z) := by
  have uniq : ∀ {p q : Prc}, p ∈ C → q ∈ C → p.name = q.name → p = q := fun {p q} hp hq e => by
    have h1 := find_of hC hp
    have h2 := find_of hC hq
    rw [e, h2] at h1
    exact (Option.some.inj h1).symm
  induction h with
  | @base p' x hp' hx =>
    intro p hp e
    have := uniq hp hp' e
    subst this
    have hP := hC.ok p hp
    obtain ⟨s, hs, hx⟩ := List.mem_flatMap.mp hx
    have ok := hP.ok s hs
    have nd := List.nodup_append.mp hP.nd
    have iv : x ∈ p.iv → x ∈ asg s → (x ∈ p.av → MvT C p.name (hsh x)) ∧ (x ∈ p.iv → MvT C p.name x) := fun h1 h2 => ⟨fun h3 => absurd rfl (nd.2.2 x h1 x h3), fun _ => .base hp (List.mem_flatMap.mpr ⟨s, hs, h2⟩)⟩
    have av : x ∈ p.av → hsh x ∈ asg s → (x ∈ p.av → MvT C p.name (hsh x)) ∧ (x ∈ p.iv → MvT C p.name x) := fun h1 h2 => ⟨fun _ => .base hp (List.mem_flatMap.mpr ⟨s, hs, h2⟩), fun h3 => absurd rfl (nd.2.2 x h3 x h1)⟩
    cases s with
    | set u e =>
      have e1 := List.mem_singleton.mp hx
      subst e1
      exact iv ok (List.mem_singleton.mpr rfl)
    | pop u a =>
      rcases List.mem_cons.mp hx with e1 | hx
      · subst e1; exact iv ok.1 List.mem_cons_self
      · have e1 := List.mem_singleton.mp hx
        subst e1
        exact av ok.2 (List.mem_cons_of_mem _ (List.mem_singleton.mpr rfl))
    | push e a =>
      have e1 := List.mem_singleton.mp hx
      subst e1
      exact av ok (List.mem_singleton.mpr rfl)
    | call c as ts o => exact iv (ok.1 x hx) hx
    | _ => cases hx
  | @step p' c as ts o it ar hp' hs hz hi _ ih =>
    intro p hp e
    have := uniq hp hp' e
    subst this
    have hP := hC.ok p hp
    obtain ⟨q, hq, hn, h1, h2, h3⟩ := zip_kind hP hC hs hz hi
    have nd := List.nodup_append.mp hP.nd
    exact ⟨fun _ => .step hp hs hz hi ((ih q hq hn).1 h2), fun h4 => absurd rfl (nd.2.2 _ h4 _ h3)⟩
theorem mv_item {C : List Prc} (hC : OkC C) {p : Prc} (hp : p ∈ C) {it : Bool × Str} (hi : it ∈ p.items) : MvT C p.name (if it.1 then hsh it.2 else it.2) ↔ MvL C p.name it.2 := by
  have hP := hC.ok p hp
  have h1 := hP.ia it hi
  cases hb : it.1 with
  | true =>
    rw [hb, if_pos rfl] at h1
    rw [if_pos rfl]
    exact ⟨fun h => (mvT_L hC h).1 _ rfl, fun h => (mvL_T hC h p hp rfl).1 h1⟩
  | false =>
    rw [hb, if_neg (by decide)] at h1
    rw [if_neg (by decide)]
    exact ⟨fun h => (mvT_L hC h).2 (hP.sh _ (List.mem_append_left _ h1)), fun h => (mvL_T hC h p hp rfl).2 h1⟩
/-! ### the measure: lengths that are missing -/
def missP (T : Str → List Str) (p : Prc) : Nat := (p.av.filter fun y => !decide (hsh y ∈ T p.name)).length
def miss (C : List Prc) (T : Str → List Str) : Nat := (C.map (missP T)).sum
theorem sum_lt8 {α : Type} (f g : α → Nat) : ∀ (l : List α), (∀ x, x ∈ l → f x ≤ g x) → (∃ x, x ∈ l ∧ f x < g x) → (l.map f).sum < (l.map g).sum
  | [], _, ⟨x, h, _⟩ => absurd h (by simp)
  | a :: l, h, ⟨x, hx, hlt⟩ => by
    have hle : ∀ (l : List α), (∀ x, x ∈ l → f x ≤ g x) → (l.map f).sum ≤ (l.map g).sum := fun l => by
      induction l with
      | nil => exact fun _ => Nat.le_refl _
      | cons b l ih =>
        intro h
        have h1 := h b List.mem_cons_self
        have h2 := ih fun y hy => h y (List.mem_cons_of_mem _ hy)
        simp only [List.map_cons, List.sum_cons]
        omega
    have h1 := h a List.mem_cons_self
    have h2 := hle l fun y hy => h y (List.mem_cons_of_mem _ hy)
    simp only [List.map_cons, List.sum_cons]
    rcases List.mem_cons.mp hx with rfl | hx
    · omega
    · have := sum_lt8 f g l (fun y hy => h y (List.mem_cons_of_mem _ hy)) ⟨x, hx, hlt⟩
      omega
theorem filter_le8 {α : Type} (f g : α → Bool) : ∀ l : List α, (∀ x, x ∈ l → f x = true → g x = true) → (l.filter f).length ≤ (l.filter g).length
  | [], _ => Nat.le_refl _
  | a :: l, h => by
    have ih := filter_le8 f g l fun x hx => h x (List.mem_cons_of_mem _ hx)
    have h1 := h a List.mem_cons_self
    rw [List.filter_cons, List.filter_cons]
    cases hf : f a with
    | true => rw [h1 hf, if_pos rfl, if_pos rfl, List.length_cons, List.length_cons]; omega
    | false =>
      rw [if_neg (by decide)]
      split
      · rw [List.length_cons]; omega
      · exact ih
theorem filter_lt8 {α : Type} (f g : α → Bool) : ∀ l : List α, (∀ x, x ∈ l → f x = true → g x = true) → (∃ x, x ∈ l ∧ f x = false ∧ g x = true) → (l.filter f).length < (l.filter g).length
  | [], _, ⟨x, h, _⟩ => absurd h (by simp)
  | a :: l, h, ⟨x, hx, h1, h2⟩ => by
    have ihl := filter_le8 f g l fun x hx => h x (List.mem_cons_of_mem _ hx)
    rw [List.filter_cons, List.filter_cons]
    rcases List.mem_cons.mp hx with rfl | hx
    · rw [h1, h2, if_neg (by decide), if_pos rfl, List.length_cons]; omega
    · have ih := filter_lt8 f g l (fun x hx => h x (List.mem_cons_of_mem _ hx)) ⟨x, hx, h1, h2⟩
      have h3 := h a List.mem_cons_self
      cases hf : f a with
      | true => rw [h3 hf, if_pos rfl, if_pos rfl, List.length_cons, List.length_cons]; omega
      | false =>
        rw [if_neg (by decide)]
        split
        · rw [List.length_cons]; omega
        · exact ih
theorem miss_app {C : List Prc} {T : Str → List Str} {p : Prc} {y : Str} (hp : p ∈ C) (hy : y ∈ p.av) (hn : hsh y ∉ T p.name) : miss C (fun u => if u = p.name then T u ++ [hsh y] else T u) < miss C T := by
  have sub : ∀ u x, x ∈ T u → x ∈ (fun u => if u = p.name then T u ++ [hsh y] else T u) u := fun u x h => by
    show x ∈ if u = p.name then T u ++ [hsh y] else T u
    split
    · exact List.mem_append_left _ h
    · exact h
  have imp : ∀ (q : Prc) (z : Str), (!decide (hsh z ∈ (fun u => if u = p.name then T u ++ [hsh y] else T u) q.name)) = true → (!decide (hsh z ∈ T q.name)) = true := fun q z h => by
    rw [Bool.not_eq_true', decide_eq_false_iff_not] at h ⊢
    exact fun c => h (sub _ _ c)
  refine sum_lt8 _ _ C (fun q _ => filter_le8 _ _ _ fun z _ h => imp q z h) ⟨p, hp, filter_lt8 _ _ _ (fun z _ h => imp p z h) ⟨y, hy, ?_, ?_⟩⟩
  · rw [Bool.not_eq_false', decide_eq_true_eq]
    show hsh y ∈ if p.name = p.name then T p.name ++ [hsh y] else T p.name
    rw [if_pos rfl]
    exact List.mem_append_right _ (List.mem_singleton.mpr rfl)
  · rw [Bool.not_eq_true', decide_eq_false_iff_not]
    exact hn
/-- a table on the way -/
structure GoodT (C : List Prc) (T : Str → List Str) : Prop where
  snd : SoundT C T
  bas : BaseT C T
  len : ∀ p, p ∈ C → (T p.name).length + miss C T ≤ 5000
theorem miss_le {C : List Prc} (hC : OkC C) (T : Str → List Str) : miss C T ≤ 18 := by
  have key : ∀ D : List Prc, (∀ p, p ∈ D → p ∈ C) → (D.map (missP T)).sum ≤ D.length * 3 := fun D => by
    induction D with
    | nil => exact fun _ => Nat.le_refl _
    | cons p D ih =>
      intro h
      have h1 := ih fun q hq => h q (List.mem_cons_of_mem _ hq)
      have h2 : missP T p ≤ 3 := by
        unfold missP
        have := List.length_filter_le (fun y => !decide (hsh y ∈ T p.name)) p.av
        rw [(hC.ok p (h p List.mem_cons_self)).ra] at this
        exact this
      simp only [List.map_cons, List.sum_cons, List.length_cons]
      omega
  have h1 := key C fun p hp => hp
  have h6 := hC.n6
  unfold miss
  omega
theorem good_app {C : List Prc} {T : Str → List Str} {p : Prc} {y : Str} (g : GoodT C T) (hp : p ∈ C) (hy : y ∈ p.av) (hn : hsh y ∉ T p.name) (hm : MvT C p.name (hsh y)) : GoodT C (fun u => if u = p.name then T u ++ [hsh y] else T u) := by
  refine ⟨fun q hq x hx => ?_, fun q hq x hx => ?_, fun q hq => ?_⟩
  · split at hx
    · rename_i e
      rcases List.mem_append.mp hx with h | h
      · exact g.snd q hq x h
      · rw [List.mem_singleton.mp h, e]; exact hm
    · exact g.snd q hq x hx
  · have := g.bas q hq x hx
    split
    · exact List.mem_append_left _ this
    · exact this
  · have h1 := miss_app hp hy hn
    have h2 := g.len q hq
    split
    · rw [List.length_append, List.length_singleton]; omega
    · omega
theorem good_base {C : List Prc} (hC : OkC C) {T : Str → List Str} (h : ∀ p, p ∈ C → T p.name = (flat 4 p.body).flatMap asg) : GoodT C T := by
  refine ⟨fun p hp x hx => .base hp (by rw [← h p hp]; exact hx), fun p hp x hx => by rw [h p hp]; exact hx, fun p hp => ?_⟩
  have h1 := miss_le hC T
  have hw := (hC.ok p hp).wb
  have h2 := flat_len 4 p.body hw
  rw [fcap4] at h2
  have h3 := flatMap_len asg 2 (flat 4 p.body) fun s hs => asg_len hw hs
  rw [h p hp]
  omega
end K88

set_option maxHeartbeats 4000000
namespace K88
open PySem L2 Evl
/-! ### moving_table -/
def spMTab (K : PySem.W.Frag) : Sp := fun vs H Q _ => ∃ (v : V) (C : List Prc), vs = [v] ∧ Rep K H v (coreDa C) ∧ OkC C ∧
  ∀ M T H2, Ex H H2 → TabS (C.map Prc.name) H H2 M T → SoundT C T → BaseT C T → ClosT C T → Q (.ref M) H2
def spMov (K : PySem.W.Frag) : Sp := fun vs H Q _ => ∃ (v : V) (C : List Prc) (p : Prc), vs = [v, .str p.name] ∧ Rep K H v (coreDa C) ∧ OkC C ∧ p ∈ C ∧
  RetP (fun v H => Rep K H v (.t ((p.items.filter fun it => mvB C p.name it.2).map fun it => .s it.2))) H Q
section
variable {P : Program} {w : World} {K : PySem.W.Frag} {mg : Str → Option Value} {base : Heap}
theorem sc_moving_table : FnScope ["core", "moving", "growing", "proc", "name"] ["core"] (defScope (topS 5)) := ⟨rfl, rfl, rfl, by decide +kernel, rfl, by decide +kernel, by decide +kernel⟩
theorem ok_moving_table {f : Addr} {fd : FuncData} (F : FnP K "moving_table" "moving_table" (topS 5) f fd) (T : Bt mg) (h_assigned_in : Has P w K mg base "assigned_in" ["proc"] 5 (spAsg K)) (h_passed_on : Has P w K mg base "passed_on" ["core", "moving", "proc"] 5 (spPassed K)) : FnOk P w K mg base CX0 6 f fd ["core"] (spMTab K) := by
  refine F.ok sc_moving_table (fun vs H Q E h => ?_) (fun cdv A outer s H vs Q E hr h => ?_)
  · obtain ⟨v, C, rfl, _⟩ := h
    rfl
  · obtain ⟨v, C, rfl, hv, hC, q⟩ := h
    refine ⟨_, PSs.nox
      (pss_cons (ps_setDc (i := 1) (own := [("proc", 3)]) rfl sc_moving_table.nd rfl rfl (sw_trueD rfl rfl rfl (by decide +kernel)) (pi_tupK K rfl (pv 0)) (blkOk_by (own := [("proc", 3)]) (N := ["core", "moving", "growing", "proc", "name"]) (sc := defScope (topS 5)) (by decide +kernel)) (fun _ _ _ _ _ => (pg_name (i := 3) sc_moving_table.nd rfl (Or.inl rfl))) (fun _ _ _ _ _ => pts_nil) (fun _ _ _ _ _ => (pe_ix (ix_tupK K rfl) (pv 3) pe_int (fun _ _ => rfl))) (fun _ _ _ _ _ => (pe_callH h_assigned_in (hr.mono (by decide)) (by rfl) (pa_cons (pv 3) pa_nil))))
      (pss_cons (ps_set (i := 2) sc_moving_table.nd rfl (Or.inl rfl) pe_bl)
      (pss_cons (ps_while PassesOwn.never (pt_val (pv 2)) (pss_cons (ps_set (i := 2) sc_moving_table.nd rfl (Or.inl rfl) pe_bl)
      (pss_one (ps_for PassesOwn.never rfl (pi_tupK K rfl (pv 0)) (pg_name (i := 3) sc_moving_table.nd rfl (Or.inl rfl)) (pss_one (ps_for PassesOwn.never rfl (pi_listK K rfl (pe_callH h_passed_on (hr.mono (by decide)) (by rfl) (pa_cons (pv 0) (pa_cons (pv 1) (pa_cons (pv 3) pa_nil))))) (pg_name (i := 4) sc_moving_table.nd rfl (Or.inl rfl)) (pss_one (ps_if (pt_cmpR op_notIn_seq (pv 4) (pe_dget (hu_of hr) (pv 1) (pe_ix (ix_tupK K rfl) (pv 3) pe_int (fun _ _ => rfl)) (fun _ _ => rfl)) rfl) (pss_cons (ps_expr (pe_bm PySem.F.plainAttrs_list PySem.F.slot_list_append PySem.F.type_list_append mt_append (pe_dget (hu_of hr) (pv 1) (pe_ix (ix_tupK K rfl) (pv 3) pe_int (fun _ _ => rfl)) (fun _ _ => rfl)) (pa_cons (pv 4) pa_nil)))
      (pss_one (ps_set (i := 2) sc_moving_table.nd rfl (Or.inl rfl) pe_bl))) pss_nil))))))))
      (pss_one (ps_ret (pv 1)))))), ?_⟩
    unfold coreDa Rep at hv
    obtain ⟨a, us, rfl, ha, hr2⟩ := hv
    have hv : Rep K H (.ref a) (coreDa C) := rep_t ha hr2
    have hul : us.length = C.length := by rw [hr2.len, List.length_map]
    -- moving = {..}
    refine q_seq (s_dcTab (T := fun n => ((C.find? fun p => decide (p.name = n)).map fun p => (flat 4 p.body).flatMap asg).getD []) hC (ev_var rfl) ha hr2 (fun _ => rfl) (fun p v Hb hp eb rb => ?_) (fun p v Hb hp eb rb => ?_) fun M H1 e1 t1 => ?_)
    · rw [prc_da] at rb
      exact ev_ixRs (i := 0) (ev_var rfl) rb rfl
    · rw [find_of hC hp]
      exact ef_callR (ea_cons (ev_var rfl) ea_nil) fun H2 e2 Q' hQ E' => ⟨v, C, p, rfl, rb.ex e2, hC.ok p hp, hQ⟩
    generalize hT1 : (fun n => ((C.find? fun p => decide (p.name = n)).map fun p => (flat 4 p.body).flatMap asg).getD []) = T1 at t1
    have hT1v : ∀ p, p ∈ C → T1 p.name = (flat 4 p.body).flatMap asg := fun p hp => by rw [← hT1]; show ((C.find? _).map _).getD [] = _; rw [find_of hC hp]; rfl
    have g1 := good_base hC hT1v
    clear hT1 hT1v
    -- growing = True
    refine q_asg ev_c fun H2 e2 => ?_
    -- while growing
    refine q_while (fun m σ' H' => ∃ g T' x y, σ' = [some (.ref a), some (.ref M), some (.bl g), x, y] ∧ Ex H H' ∧ TabS (C.map Prc.name) H H' M T' ∧ GoodT C T' ∧ (g = false → ClosT C T') ∧ m = 2 * miss C T' + (if g = true then 1 else 0)) (2 * miss C T1 + 1)
      ⟨true, T1, _, _, rfl, e1.trans e2, t1.ex e2, g1, (fun h => by cases h), rfl⟩ ?_
    rintro m σ' H' ⟨g, T0, x, y, rfl, e0, t0, gd0, c0, rfl⟩
    refine ⟨g, et_B (ev_var rfl), fun hg H3 e3 => ?_, fun hg H3 e3 => ?_⟩
    · subst hg
      refine ⟨fun σ' H' => ∃ g T' x y, σ' = [some (.ref a), some (.ref M), some (.bl g), x, y] ∧ Ex H H' ∧ TabS (C.map Prc.name) H H' M T' ∧ GoodT C T' ∧ (g = true → miss C T' < miss C T0) ∧ (g = false → T' = T0 ∧ ClosT C T'), ?_, ?_⟩
      · rintro σ4 H4 ⟨g, T', x, y, rfl, e4, t4, gd4, c4, d4⟩
        refine ⟨2 * miss C T' + (if g = true then 1 else 0), ?_, g, T', x, y, rfl, e4, t4, gd4, (fun h => (d4 h).2), rfl⟩
        cases g with
        | true => have := c4 rfl; simp only [if_true]; omega
        | false => have := (d4 rfl).1; subst this; simp
      -- growing = False; for proc in core
      refine q_asg ev_c fun H4 e4 => ?_
      have e34 := e3.trans e4
      refine s_forT (xs := us) (ev_var rfl) (st_of ((e0.trans e34) _ _ ha)) (fun i σ' H' => ∃ g T' x y, σ' = [some (.ref a), some (.ref M), some (.bl g), x, y] ∧ Ex H H' ∧ TabS (C.map Prc.name) H H' M T' ∧ GoodT C T' ∧ (g = true → miss C T' < miss C T0) ∧ (g = false → T' = T0 ∧ ∀ j p, j < i → C[j]? = some p → ∀ x, x ∈ pon C T' p → x ∈ T' p.name))
        (fun H5 e5 => ⟨false, T0, _, _, rfl, (e0.trans e34).trans e5, t0.ex (e34.trans e5), gd0, (fun h => by cases h), fun _ => ⟨rfl, fun j p hj => absurd hj (Nat.not_lt_zero _)⟩⟩) (fun i σ' H' _ p => ?_) (fun i vp σ' H' hvp p => ?_) (fun σ' H' p => ?_)
      · obtain ⟨_, _, _, _, _, e5, _⟩ := p
        exact st_of (e5 _ _ ha)
      · obtain ⟨g, T5, x, y, rfl, e5, t5, gd5, c5, d5⟩ := p
        obtain ⟨d, hd, rd⟩ := hr2.get hvp
        rw [List.getElem?_map, Option.map_eq_some_iff] at hd
        obtain ⟨p, hp, rfl⟩ := hd
        have hpC := List.mem_of_getElem? hp
        have hpN : p.name ∈ C.map Prc.name := List.mem_map_of_mem hpC
        show tFor _ _ _ _ [some (V.ref a), some (V.ref M), some (V.bl g), some vp, y] H'
        -- for name in passed_on(core, moving, proc)
        refine (ef_callR (K := K) (ds := (pon C T5 p).map Da.s) (ea_cons (ev_var rfl) (ea_cons (ev_var rfl) (ea_cons (ev_var rfl) ea_nil))) fun H6 e6 Q' hQ E' => ⟨.ref a, vp, M, C, T5, p, rfl, hv.ex (e5.trans e6), hC, hpC, rd.ex (e5.trans e6), t5.r.ex e6, hQ⟩) H' (Ex.refl _) _ fun vL H6 e6 ⟨L, ws, hvL, hL, hL6, rL⟩ => ?_
        subst hvL
        have ews := reps_strs rL
        subst ews
        refine ⟨L, rfl, ⟨_, sq_of hL6⟩, for_list (xs := (pon C T5 p).map V.str) (fun k σ' H' => ∃ g T' y, σ' = [some (.ref a), some (.ref M), some (.bl g), some vp, y] ∧ Ex H H' ∧ H' L = some (.lst ((pon C T5 p).map V.str)) ∧ TabS (C.map Prc.name) (upd H L (.lst [])) H' M T' ∧ GoodT C T' ∧ (g = true → miss C T' < miss C T0) ∧ (g = false → T' = T0 ∧ T' = T5 ∧ (∀ j p, j < i → C[j]? = some p → ∀ x, x ∈ pon C T' p → x ∈ T' p.name) ∧ ∀ j x, j < k → (pon C T5 p)[j]? = some x → x ∈ T' p.name)) ?_ (fun k σ' H' _ q => ?_) (fun k vn σ' H' hvn q => ?_) (fun σ' H' q => ?_)⟩
        · refine ⟨g, T5, _, rfl, e5.trans e6, hL6, (t5.sep hL).ex e6, gd5, c5, fun h => ⟨(d5 h).1, rfl, (d5 h).2, fun j x hj => absurd hj (Nat.not_lt_zero _)⟩⟩
        · obtain ⟨_, _, _, _, _, h, _⟩ := q
          exact sq_of h
        · obtain ⟨g, T', y, rfl, e7, hL7, t7, gd7, c7, d7⟩ := q
          rw [List.getElem?_map, Option.map_eq_some_iff] at hvn
          obtain ⟨z, hz, rfl⟩ := hvn
          have hzm := List.mem_of_getElem? hz
          obtain ⟨yy, hy1, rfl⟩ := pon_av hC hpC hzm
          have hmv := pon_sound hC gd5.snd hpC hzm
          have rd7 := rd.ex e7
          rw [prc_da] at rd7
          show tIfS _ _ _ _ [some (V.ref a), some (V.ref M), some (V.bl g), some vp, some (.str (hsh yy))] H'
          have t7' : TabS (C.map Prc.name) H H' M T' := t7.base (Ex.new (fresh_back e5 hL))
          refine s_when (et_test (ev_inStrs (neg := true) (ev_var rfl) (ep_tab (K := K) (C := C) hpC (ev_var rfl) (ev_ixRs (i := 0) (ev_var rfl) rd7 rfl) t7'.r))) (fun hB H8 e8 => ?_) (fun hB H8 e8 => ?_)
          · have hB' : hsh yy ∉ T' p.name := by
              rw [if_pos rfl, Bool.not_eq_true', decide_eq_false_iff_not] at hB
              exact hB
            obtain ⟨l, l1, l2, l3, l4⟩ := (t7.ex e8).app (z := hsh yy) hpN
            have hlL : l ≠ L := fun c => by rw [c, upd_same] at l2; cases l2
            have l2' : H l = none := by rw [upd_ne hlL] at l2; exact l2
            have hlen := gd7.len p hpC
            refine q_app l1 (l3 _ _ _ (ev_var rfl) (ev_ixRs (i := 0) (ev_var rfl) ((rd.ex (e7.trans e8))) rfl)) (ev_var rfl) (by rw [List.length_map]; omega) fun H9 e9 => ?_
            refine s_asg ev_c fun H10 e10 => ⟨true, _, _, rfl, ((e7.trans (e8.trans e9)).mut l2').trans e10, e10 _ _ ?_, (l4 H9 e9).ex e10, good_app gd7 hpC hy1 hB' hmv, fun _ => ?_, (fun h => by cases h)⟩
            · rw [upd_ne hlL.symm]
              exact (e8.trans e9) _ _ hL7
            · have h1 := miss_app hpC hy1 hB'
              cases g with
              | true => exact Nat.lt_trans h1 (c7 rfl)
              | false => rw [(d7 rfl).1] at h1 ⊢; exact h1
          · have hB' : hsh yy ∈ T' p.name := by
              rw [if_pos rfl, Bool.not_eq_false', decide_eq_true_eq] at hB
              exact hB
            refine ⟨g, T', _, rfl, e7.trans e8, e8 _ _ hL7, t7.ex e8, gd7, c7, fun h => ⟨(d7 h).1, (d7 h).2.1, (d7 h).2.2.1, fun j x hj hx => ?_⟩⟩
            by_cases ej : j = k
            · subst ej
              rw [hz] at hx
              cases hx
              exact hB'
            · exact (d7 h).2.2.2 j x (by omega) hx
        · obtain ⟨g, T', y, rfl, e7, hL7, t7, gd7, c7, d7⟩ := q
          refine ⟨g, T', _, _, rfl, e7, t7.base (Ex.new (fresh_back e5 hL)), gd7, c7, fun h => ⟨(d7 h).1, fun j p' hj hp' x hx => ?_⟩⟩
          by_cases ej : j = i
          · subst ej
            rw [hp] at hp'
            cases hp'
            rw [(d7 h).2.1] at hx
            obtain ⟨m, hm, e⟩ := List.getElem_of_mem hx
            exact (d7 h).2.2.2 m x (by rw [List.length_map]; exact hm) (by rw [List.getElem?_eq_getElem hm, e])
          · exact (d7 h).2.2.1 j p' (by omega) hp' x hx
      · obtain ⟨g, T5, x, y, rfl, e5, t5, gd5, c5, d5⟩ := p
        refine ⟨g, T5, x, y, rfl, e5, t5, gd5, c5, fun h => ⟨(d5 h).1, fun p hp x hx => ?_⟩⟩
        obtain ⟨m, hm, e⟩ := List.getElem_of_mem hp
        exact (d5 h).2 m p (by rw [hul]; exact hm) (by rw [List.getElem?_eq_getElem hm, e]) x hx
    · subst hg
      refine s_ret (ev_var rfl) fun H4 e4 => q M T0 H4 ((e0.trans e3).trans e4) (t0.ex (e3.trans e4)) gd0.snd gd0.bas (c0 rfl)
theorem sc_moving_of : FnScope ["core", "name", "item"] ["core", "name"] (defScope (topS 8)) := ⟨rfl, rfl, rfl, by decide +kernel, rfl, by decide +kernel, by decide +kernel⟩
theorem ok_moving_of {f : Addr} {fd : FuncData} (F : FnP K "moving_of" "moving_of" (topS 8) f fd) (T : Bt mg) (h_proc_named : Has P w K mg base "proc_named" ["core", "name"] 1 (spProc K)) (h_moving_table : Has P w K mg base "moving_table" ["core"] 6 (spMTab K)) (h_moving_items : Has P w K mg base "moving_items" ["proc", "moving"] 2 (spItems K)) : FnOk P w K mg base CX0 7 f fd ["core", "name"] (spMov K) := by
  refine F.ok sc_moving_of (fun vs H Q E h => ?_) (fun cdv A outer s H vs Q E hr h => ?_)
  · obtain ⟨v, C, p, rfl, _⟩ := h
    rfl
  · obtain ⟨v, C, p, rfl, hv, hC, hp, q⟩ := h
    refine ⟨_, PSs.nox
      (pss_one (ps_ret (pe_callTy (call_tuple_ofK K rfl) (by rfl) T.m_tuple (by decide +kernel) (pa_cons (pe_lc (own := [("item", 2)])  rfl sc_moving_of.nd  (pi_listK K rfl (pe_callH h_moving_items (hr.mono (by decide)) (by rfl) (pa_cons (pe_callH h_proc_named (hr.mono (by decide)) (by rfl) (pa_cons (pv 0) (pa_cons (pv 1) pa_nil))) (pa_cons (pe_callH h_moving_table (hr.mono (by decide)) (by rfl) (pa_cons (pv 0) pa_nil)) pa_nil)))) (blkOk_by (own := [("item", 2)]) (N := ["core", "name", "item"]) (sc := defScope (topS 8)) (by decide +kernel)) (fun _ _ _ _ _ => (pg_name (i := 2) sc_moving_of.nd rfl (Or.inl rfl))) (fun _ _ _ _ _ => pts_nil) (fun _ _ _ _ _ => (pe_ix (ix_tupK K rfl) (pv 2) pe_int (fun _ _ => rfl)))) pa_nil)))), ?_⟩
    have hP := hC.ok p hp
    refine s_retP (P := fun v H => Rep K H v (.t ((p.items.filter fun it : Bool × Str => mvB C p.name it.2).map fun it : Bool × Str => Da.s it.2))) (er_tupL (ep_LR ?_)) q
    have hfl := List.length_filter_le (fun it : Bool × Str => mvB C p.name it.2) p.items
    rw [hP.il] at hfl
    have h2 := ef_lcN (K := K) (σ := [some v, some (.str p.name), none]) (H := H) (tt := tYes) (vs := [2]) (tg := gName 2) (b := p.items.filter fun it => mvB C p.name it.2) (f := fun _ => true) (g0 := itemDa) (e := fun it => .s it.2) (te := tOp (rIxT K) (tVar 2) (tC (.int 1))) (tl := tCall (spItems K) [] E0 (tCons (tCall (spProc K) [] E0 (tCons (tVar 0) (tCons (tVar 1) tNil))) (tCons (tCall (spMTab K) [] E0 (tCons (tVar 0) tNil)) tNil))) (ep_LR ?_) (by omega) (fun i it v' Hb hb eb rb => ⟨_, tgt_name, rfl, et_yes, fun _ => ev_ixR (i := 1) (ev_var rfl) rb rfl⟩)
    · rw [filter_true] at h2
      exact h2
    · refine ef_callRA (PA := fun vs H => ∃ v1 M T, vs = [v1, .ref M] ∧ Rep K H v1 p.da ∧ TabR C H M T ∧ SoundT C T ∧ BaseT C T ∧ ClosT C T) (fun H1 e1 Q1 q1 => ?_) fun vs H1 e1 ⟨v1, M, T, hvs, r1, t1, s1, b1, c1⟩ Q' hQ E' => ⟨v1, M, C, T, p, hvs, hC, hp, r1, t1, ?_⟩
      · refine (ep_call (P := fun v H => Rep K H v p.da) (ea_cons (ev_var rfl) (ea_cons (ev_var rfl) ea_nil)) fun H2 e2 Q2 q2 E2 => ⟨v, C, p.name, p, rfl, hv.ex e2, hC.n6, find_of hC hp, q2⟩) H1 e1 _ fun v1 H2 e2 r1 => ?_
        refine (ep_call (P := fun v H => ∃ M T, v = .ref M ∧ TabR C H M T ∧ SoundT C T ∧ BaseT C T ∧ ClosT C T) (ea_cons (ev_var rfl) ea_nil) fun H3 e3 Q2 q2 E2 => ⟨v, C, rfl, hv.ex e3, hC, fun M T H4 e4 t4 s4 b4 c4 => q2 _ H4 e4 ⟨M, T, rfl, t4.r, s4, b4, c4⟩⟩) H2 (e1.trans e2) _ fun v2 H3 e3 ⟨M, T, hv2, t3, s3, b3, c3⟩ => ?_
        exact q1 [v1, v2] H3 (e2.trans e3) ⟨v1, M, T, by rw [hv2], r1.ex e3, t3, s3, b3, c3⟩
      · have ef : (p.items.filter fun it => decide ((if it.1 then hsh it.2 else it.2) ∈ T p.name)) = p.items.filter fun it => mvB C p.name it.2 := by
          refine List.filter_congr fun it hit => ?_
          rw [Bool.eq_iff_iff, decide_eq_true_eq, mvB_iff, final_iff hC s1 b1 c1 hp]
          exact mv_item hC hp hit
        rw [ef]
        exact hQ
end
end K88

set_option maxHeartbeats 4000000
namespace K88
open PySem L2 Evl
section
variable {K : PySem.W.Frag} {σ : L2.St} {H H' H0 : Hp} {ta tb te tl : TE} {x y z v : V} {P P' : V → Hp → Prop} {tg : TG} {α β : Type} {b : List α} {a : Addr} {D : Ends} {tu tz : TS} {ds : List Da}
theorem er_catT {l1 l2 : List Da} (ha : EvP ta σ H (fun v H => Rep K H v (.t l1))) (hb : EvP tb σ H (fun v H => Rep K H v (.t l2))) (hz : l1.length + l2.length ≤ 100000) : EvP (tOp (rCatA K) ta tb) σ H (fun v H => Rep K H v (.t (l1 ++ l2))) := fun H1 e Q q =>
  ha H1 e _ fun x H2 e2 r1 => hb H2 (e.trans e2) _ fun y H3 e3 r2 => by
    unfold Rep at r1 r2
    obtain ⟨p, xs, rfl, h1, r1⟩ := r1
    obtain ⟨p2, ys, rfl, h2, r2⟩ := r2
    have e13 := e2.trans e3
    have r12 := Reps.append (r1.ex e3) r2
    refine ⟨p, p2, xs, ys, rfl, rfl, st_of (e3 _ _ h1), st_of h2, sz_of (by rw [r1.len, r2.len]; exact hz), fun hx => q _ H3 e13 (rep_t h2 ?_), fun _ hy => q _ H3 e13 (rep_t (e3 _ _ h1) ?_), fun _ _ p3 hp3 => q _ _ (e13.trans (Ex.new hp3)) (rep_t upd_same (reps_new hp3 r12))⟩
    · rw [hx] at r12; exact r12
    · rw [hy, List.append_nil] at r12; exact r12
theorem s_asgG {g : TG} (h : EvP te σ H P) (k : ∀ v H1, Ex H H1 → P v H1 → g v σ H1 D.nx) : tAsg te g D σ H := h H (Ex.refl _) _ fun v H1 e p => k v H1 e p
/-- x, y = a pair of data -/
theorem q_asg2 {i j : Nat} {d1 d2 : Da} (h : EvP te σ H (fun v H => Rep K H v (.t [d1, d2]))) (k : ∀ v1 v2 H1, Ex H H1 → Rep K H1 v1 d1 → Rep K H1 v2 d2 → tz D ((σ.set i (some v1)).set j (some v2)) H1) : tSeq (tAsg te (gTup K 2 (gCons (gName i) (gCons (gName j) gNil)))) tz D σ H :=
  s_asgG (D := { D with nx := tz D }) h fun v H1 e r => by
    obtain ⟨t, v1, v2, rfl, ht, k1, k2⟩ := rep_two r
    exact tgt_pair ht _ (k v1 v2 H1 e k1 k2)
/-- over a list that is made on the way, any target -/
theorem s_accLG {g : α → Da} {f : α → List Da} {SI : Addr → L2.St → Prop} {l0 : List Da} (h : EvF tl σ H (NewLR K (b.map g))) (h0 : Acc K H0 SI l0 σ H)
    (hs : ∀ (H0' : Hp) (i : Nat) (x : α) (v : V) σ' H', Ex H0 H0' → (∀ u d, Rep K H u d → Rep K H0' u d) → b[i]? = some x → Rep K H0' v (g x) → Acc K H0' SI (l0 ++ (b.take i).flatMap f) σ' H' → tg v σ' H' fun σ2 H2 => tu { D with nx := Acc K H0' SI (l0 ++ (b.take i).flatMap f ++ f x), ct := Acc K H0' SI (l0 ++ (b.take i).flatMap f ++ f x), bk := D.nx } σ2 H2)
    (hd : ∀ σ' H', Acc K H0 SI (l0 ++ b.flatMap f) σ' H' → D.nx σ' H') : tFor (iList K tl) tg tu D σ H := by
  obtain ⟨F0, us0, e0, hF0, si0, hf0, r0⟩ := h0
  refine h H (Ex.refl _) _ fun v H1 e1 ⟨p, vs, hv, hp, h1, rv⟩ => ?_
  subst hv
  have hpF : p ≠ F0 := fun z => by rw [z, hf0] at hp; cases hp
  let H0' : Hp := del F0 H1
  have e01 : Ex H0 H0' := del_none hF0 (e0.trans e1)
  have e11 : Ex H0' H1 := del_ex
  have hp' : H0' p = some (.lst vs) := (del_ne hpF).trans h1
  have hl : vs.length = b.length := by rw [rv.len, List.length_map]
  have rv' : Reps K H0' vs (b.map g) := Reps.exs (st := F0) (e1 _ _ hf0) (fun b' o hb ho => (del_ne hb).trans ho) rv
  refine ⟨p, rfl, ⟨vs, sq_of h1⟩, ?_⟩
  refine for_list (xs := vs) (fun i => Acc K H0' SI (l0 ++ (b.take i).flatMap f)) ?_ (fun i σ' H' _ q => ?_) (fun i v σ' H' hv q => ?_) (fun σ' H' q => ?_)
  · exact ⟨F0, us0, e11, del_at, si0, e1 _ _ hf0, by simpa using r0.ex e1⟩
  · exact sq_of (q.ex _ _ hp')
  · obtain ⟨d, hd, rd⟩ := rv'.get hv
    rw [List.getElem?_map, Option.map_eq_some_iff] at hd
    obtain ⟨x, hx', rfl⟩ := hd
    have := hs H0' i x v σ' H' e01 (fun u d r => Reps.keep8 (st := F0) (e1 _ _ hf0) (r.ex e1)) hx' rd q
    rw [List.append_assoc, show (b.take i).flatMap f ++ f x = (b.take (i + 1)).flatMap f by rw [take_succ_of hx']; simp] at this
    exact this
  · rw [hl, List.take_length] at q
    obtain ⟨F, us, e, hF, si, hf, r⟩ := q
    exact hd σ' H' ⟨F, us, e01.trans e, fresh_back e01 hF, si, hf, r⟩
/-- for i, x in enumerate(a tuple) -/
theorem s_accEn {g : α → Da} {f : α × Nat → List Da} {SI : Addr → L2.St → Prop} {j k : Nat} {l0 : List Da} {t : TA} {us : List V} (h : EvA t σ H [.ref a]) (hx : H0 a = some (.tup us)) (hr : Reps K H0 us (b.map g)) (h0 : Acc K H0 SI l0 σ H)
    (hs : ∀ (i : Nat) (x : α) (v : V) σ' H', b[i]? = some x → Rep K H0 v (g x) → Acc K H0 SI (l0 ++ (b.zipIdx.take i).flatMap f) σ' H' → tu { D with nx := Acc K H0 SI (l0 ++ (b.zipIdx.take i).flatMap f ++ f (x, i)), ct := Acc K H0 SI (l0 ++ (b.zipIdx.take i).flatMap f ++ f (x, i)), bk := D.nx } ((σ'.set j (some (.int (i : Int)))).set k (some v)) H')
    (hd : ∀ σ' H', Acc K H0 SI (l0 ++ b.zipIdx.flatMap f) σ' H' → D.nx σ' H') : tFor (iEnumT K t) (gTup K 2 (gCons (gName j) (gCons (gName k) gNil))) tu D σ H := by
  have hl : us.length = b.length := by rw [hr.len, List.length_map]
  have e0 := h0.ex
  refine s_forW (ei_enumT h (e0 _ _ hx)) walk_enumT (fun i => Acc K H0 SI (l0 ++ (b.zipIdx.take i).flatMap f)) (fun H1 e1 => ?_) (fun i σ' H' _ q => st_of (q.ex _ _ hx)) (fun i v σ' Ha Hb hi q y => ?_) (fun σ' H' q => ?_)
  · obtain ⟨F, us, e, hF, si, hf, r⟩ := h0
    exact ⟨F, us, e.trans e1, hF, si, e1 _ _ hf, by simpa using r.ex e1⟩
  · obtain ⟨T, x, y, rfl, hT, rfl, hx1, hy⟩ := y
    cases hx1
    obtain ⟨d, hd, rd⟩ := hr.get hy
    rw [List.getElem?_map, Option.map_eq_some_iff] at hd
    obtain ⟨z, hz, rfl⟩ := hd
    have hz2 : b.zipIdx[i]? = some (z, i) := by rw [List.getElem?_zipIdx, hz]; simp
    have eT : Ex Ha (upd Ha T (.tup [.int (i : Int), y])) := Ex.new hT
    have q' : Acc K H0 SI (l0 ++ (b.zipIdx.take i).flatMap f) σ' (upd Ha T (.tup [.int (i : Int), y])) := by
      obtain ⟨F, us, e, hF, si, hf, r⟩ := q
      exact ⟨F, us, e.trans eT, hF, si, eT _ _ hf, r.ex eT⟩
    have := hs i z y σ' _ hz rd q'
    rw [List.append_assoc, show (b.zipIdx.take i).flatMap f ++ f (z, i) = (b.zipIdx.take (i + 1)).flatMap f by rw [take_succ_of hz2]; simp] at this
    exact tgt_pair upd_same _ this
  · rw [hl, show b.zipIdx.take b.length = b.zipIdx by rw [← List.length_zipIdx (l := b) (i := 0), List.take_length]] at q
    exact hd σ' H' q
end
end K88

set_option maxHeartbeats 4000000
namespace K88
open PySem L2 Evl
/-! ### numbers, places, nests -/
def stepS (g : List Stm → Int → List Stm × Int) : Stm → Int → Stm × Int
  | .whl t x _, n => (.whl t (g x (n + 1)).1 (some n), (g x (n + 1)).2)
  | .ite t x y, n => (.ite t (g x n).1 (g y (g x n).2).1, (g y (g x n).2).2)
  | .pause _, n => (.pause (some n), n + 1)
  | .call c as ts _, n => (.call c as ts (some n), n + 2)
  | s, n => (s, n)
def markF (g : List Stm → Int → List Stm × Int) (st : List Stm × Int) (s : Stm) : List Stm × Int := (st.1 ++ [(stepS g s st.2).1], (stepS g s st.2).2)
def mark : Nat → List Stm → Int → List Stm × Int
  | 0, _, n => ([], n)
  | d + 1, b, n => b.foldl (markF (mark d)) ([], n)
/-- a numbered block -/
def Nb : Nat → List Stm → Prop
  | 0, _ => False
  | d + 1, b => b.length ≤ 4 ∧ ∀ s, s ∈ b → match s with
    | .ite _ x y => Nb d x ∧ Nb d y
    | .whl _ x p => p ≠ none ∧ Nb d x
    | .pause p => p ≠ none
    | .call _ _ _ p => p ≠ none
    | _ => True
theorem markF_len (g : List Stm → Int → List Stm × Int) : ∀ (b : List Stm) (st : List Stm × Int), (b.foldl (markF g) st).1.length = st.1.length + b.length
  | [], st => rfl
  | s :: b, st => by
    rw [List.foldl_cons, markF_len g b, markF, List.length_append, List.length_singleton, List.length_cons]
    omega
theorem markF_mem (g : List Stm → Int → List Stm × Int) {Q : Stm → Prop} : ∀ (b : List Stm) (st : List Stm × Int), (∀ s n, s ∈ b → Q (stepS g s n).1) → (∀ s, s ∈ st.1 → Q s) → ∀ s, s ∈ (b.foldl (markF g) st).1 → Q s
  | [], st, _, h => h
  | s :: b, st, h1, h2 => by
    rw [List.foldl_cons]
    refine markF_mem g b _ (fun s' n hs => h1 s' n (List.mem_cons_of_mem _ hs)) fun s' hs => ?_
    rcases List.mem_append.mp hs with h | h
    · exact h2 s' h
    · rw [List.mem_singleton.mp h]; exact h1 s _ List.mem_cons_self
theorem mark_nb : ∀ (d : Nat) (b : List Stm) (n : Int), Wb d b → Nb d (mark d b n).1
  | 0, _, _, h => h.elim
  | d + 1, b, n, h => by
    rw [mark]
    refine ⟨by rw [markF_len]; simpa using h.1, markF_mem _ b _ (fun s m hs => ?_) fun s hs => absurd hs (by simp)⟩
    have h2 := h.2 s hs
    cases s with
    | whl t x p => exact ⟨by simp, mark_nb d x _ h2.2⟩
    | ite t x y => exact ⟨mark_nb d x _ h2.1, mark_nb d y _ h2.2⟩
    | pause p => exact (by simp : (some m : Option Int) ≠ none)
    | call c as ts p => exact (by simp : (some m : Option Int) ≠ none)
    | _ => trivial
/-- the law's nests -/
def nst : Nat → List Stm → List Int → List (List Int)
  | 0, _, _ => []
  | d + 1, b, nest => b.flatMap fun s => match s with
    | .whl _ x (some k) => (nest ++ [k]) :: nst d x (nest ++ [k])
    | .ite _ x y => nst d x nest ++ nst d y nest
    | .pause _ => [nest]
    | .call _ _ _ _ => [nest, nest]
    | _ => []
structure Pl where
  k : Int
  s : Stm
  aft : Da
  nest : List Int
def Pl.da (p : Pl) : Da := .t [.i p.k, p.s.da, p.aft, di p.nest]
def aftD (b : List Stm) (i : Nat) (rest : Da) : Da := .t [.s "body", .t (das b), .i ((i : Int) + 1), rest]
def plcS (g : List Stm → Da → List Int → List Pl) (aft : Da) (nest : List Int) : Stm → List Pl
  | .whl t x (some k) => ⟨k, .whl t x (some k), aft, nest ++ [k]⟩ :: g x (.t [.s "loop", .i k]) (nest ++ [k])
  | .ite _ x y => g x aft nest ++ g y aft nest
  | .pause (some k) => [⟨k, .pause (some k), aft, nest⟩]
  | .call c as ts (some k) => [⟨k, .call c as ts (some k), aft, nest⟩]
  | _ => []
def plc : Nat → List Stm → Da → List Int → List Pl
  | 0, _, _, _ => []
  | d + 1, b, rest, nest => b.zipIdx.flatMap fun x => plcS (plc d) (aftD b x.2 rest) nest x.1
theorem flat_zip {α β : Type} (F : α × Nat → List β) (G : α → List β) : ∀ (l : List α) (n : Nat), (∀ x i, x ∈ l → F (x, i) = G x) → (l.zipIdx n).flatMap F = l.flatMap G
  | [], _, _ => rfl
  | x :: l, n, h => by
    rw [List.zipIdx_cons, List.flatMap_cons, List.flatMap_cons, h x n List.mem_cons_self, flat_zip F G l (n + 1) fun y i hy => h y i (List.mem_cons_of_mem _ hy)]
def Pl.nests (p : Pl) : List (List Int) := if p.s.isCall then [p.nest, p.nest] else [p.nest]
theorem plc_nst : ∀ (d : Nat) (b : List Stm) (rest : Da) (nest : List Int), Nb d b → (plc d b rest nest).flatMap Pl.nests = nst d b nest
  | 0, _, _, _, h => h.elim
  | d + 1, b, rest, nest, h => by
    rw [plc, nst, List.flatMap_assoc]
    refine flat_zip _ _ b 0 fun s i hs => ?_
    have h2 := h.2 s hs
    cases s with
    | whl t x p =>
      cases p with
      | none => exact absurd rfl h2.1
      | some k =>
        show (⟨k, _, _, _⟩ :: plc d x _ _ : List Pl).flatMap Pl.nests = _
        rw [List.flatMap_cons, plc_nst d x _ _ h2.2]
        rfl
    | ite t x y =>
      show (plc d x _ _ ++ plc d y _ _).flatMap Pl.nests = _
      rw [List.flatMap_append, plc_nst d x _ _ h2.1, plc_nst d y _ _ h2.2]
    | pause p =>
      cases p with
      | none => exact absurd rfl h2
      | some k => rfl
    | call c as ts p =>
      cases p with
      | none => exact absurd rfl h2
      | some k => rfl
    | _ => rfl
theorem plc_len : ∀ (d : Nat) (b : List Stm) (rest : Da) (nest : List Int), Nb d b → (plc d b rest nest).length ≤ fcap d
  | 0, _, _, _, h => h.elim
  | d + 1, b, rest, nest, h => by
    rw [plc, fcap]
    refine Nat.le_trans (flatMap_len _ (1 + 2 * fcap d) _ fun x hx => ?_) (by rw [List.length_zipIdx]; exact Nat.mul_le_mul_right _ h.1)
    obtain ⟨s, i⟩ := x
    have hs : s ∈ b := by
      obtain ⟨j, hj, e⟩ := List.getElem_of_mem hx
      rw [List.getElem_zipIdx] at e
      have e2 : b[j]'(by simpa using hj) = s := congrArg Prod.fst e
      rw [← e2]
      exact List.getElem_mem _
    have h2 := h.2 s hs
    cases s with
    | whl t x p =>
      cases p with
      | none => exact absurd rfl h2.1
      | some k =>
        have := plc_len d x (.t [.s "loop", .i k]) (nest ++ [k]) h2.2
        show (_ :: plc d x _ _ : List Pl).length ≤ _
        rw [List.length_cons]
        omega
    | ite t x y =>
      have h3 := plc_len d x (aftD b i rest) nest h2.1
      have h4 := plc_len d y (aftD b i rest) nest h2.2
      show (plc d x (aftD b i rest) nest ++ plc d y (aftD b i rest) nest).length ≤ _
      rw [List.length_append]
      omega
    | pause p => cases p <;> simp [plcS] <;> omega
    | call c as ts p => cases p <;> simp [plcS] <;> omega
    | _ => simp [plcS]
theorem nst_len : ∀ (d : Nat) (b : List Stm) (nest : List Int), Nb d b → (nst d b nest).length ≤ 2 * fcap d := fun d b nest h => by
  rw [← plc_nst d b (.t []) nest h]
  have h1 := flatMap_len Pl.nests 2 (plc d b (.t []) nest) fun x _ => by unfold Pl.nests; split <;> simp
  have h2 := plc_len d b (.t []) nest h
  omega
end K88

set_option maxHeartbeats 4000000
namespace K88
open PySem L2 Evl
def spNum (K : PySem.W.Frag) (d : Nat) : Sp := fun vs H Q _ => ∃ (v : V) (b : List Stm) (n : Int), vs = [v, .int n] ∧ Rep K H v (.t (das b)) ∧ Wb d b ∧ d ≤ 4 ∧ RetP (fun v H => Rep K H v (.t [.t (das (mark d b n).1), .i (mark d b n).2])) H Q
theorem das_app (a b : List Stm) : das (a ++ b) = das a ++ das b := by rw [das_map, das_map, das_map, List.map_append]
section
variable {P : Program} {w : World} {K : PySem.W.Frag} {mg : Str → Option Value} {base : Heap}
theorem sc_numbered : FnScope ["body", "first", "found", "point", "statement", "kind", "block", "after", "left", "middle", "right"] ["body", "first"] (defScope (topS 17)) := ⟨rfl, rfl, rfl, by decide +kernel, rfl, by decide +kernel, by decide +kernel⟩
theorem ok_numbered {d : Nat} {f : Addr} {fd : FuncData} (F : FnP K "numbered" "numbered" (topS 17) f fd) (T : Bt mg) (h_numbered : Has P w K mg base "numbered" ["body", "first"] (0 + d) (spNum K d)) : FnOk P w K mg base CX0 (0 + d + 1) f fd ["body", "first"] (spNum K (d + 1)) := by
  refine F.ok sc_numbered (fun vs H Q E h => ?_) (fun cdv A outer s H vs Q E hr h => ?_)
  · obtain ⟨v, b, n, rfl, _⟩ := h
    rfl
  · obtain ⟨v, b, n, rfl, hv, hw, hd4, q⟩ := h
    refine ⟨_, PSs.nox
      (pss_cons (ps_set (i := 2) sc_numbered.nd rfl (Or.inl rfl) (pe_lst pa_nil))
      (pss_cons (ps_set (i := 3) sc_numbered.nd rfl (Or.inl rfl) (pv 1))
      (pss_cons (ps_for PassesOwn.never rfl (pi_tupK K rfl (pv 0)) (pg_name (i := 4) sc_numbered.nd rfl (Or.inl rfl)) (pss_cons (ps_set (i := 5) sc_numbered.nd rfl (Or.inl rfl) (pe_ix (ix_tupK K rfl) (pv 4) pe_int (fun _ _ => rfl)))
      (pss_one (ps_if (pt_cmpR op_eq (pv 5) pe_str (nomark _)) (pss_cons (ps_asg (pe_callH h_numbered (hr.mono (by omega)) (by rfl) (pa_cons (pe_ix (ix_tupK K rfl) (pv 4) pe_int (fun _ _ => rfl)) (pa_cons (pe_op op_add (pv 3) pe_int) pa_nil))) (pg_tupK K rfl (n := 2) rfl (pgs_cons (pg_name (i := 6) sc_numbered.nd rfl (Or.inl rfl)) (pgs_cons (pg_name (i := 7) sc_numbered.nd rfl (Or.inl rfl)) pgs_nil))))
      (pss_cons (ps_expr (pe_bm PySem.F.plainAttrs_list PySem.F.slot_list_append PySem.F.type_list_append mt_append (pv 2) (pa_cons (pe_tup (pa_cons pe_str (pa_cons (pe_ix (ix_tupK K rfl) (pv 4) pe_int (fun _ _ => rfl)) (pa_cons (pv 6) (pa_cons (pv 3) pa_nil))))) pa_nil)))
      (pss_one (ps_set (i := 3) sc_numbered.nd rfl (Or.inl rfl) (pv 7))))) (pss_one (ps_if (pt_cmpR op_eq (pv 5) pe_str (nomark _)) (pss_cons (ps_asg (pe_callH h_numbered (hr.mono (by omega)) (by rfl) (pa_cons (pe_ix (ix_tupK K rfl) (pv 4) pe_int (fun _ _ => rfl)) (pa_cons (pv 3) pa_nil))) (pg_tupK K rfl (n := 2) rfl (pgs_cons (pg_name (i := 8) sc_numbered.nd rfl (Or.inl rfl)) (pgs_cons (pg_name (i := 9) sc_numbered.nd rfl (Or.inl rfl)) pgs_nil))))
      (pss_cons (ps_asg (pe_callH h_numbered (hr.mono (by omega)) (by rfl) (pa_cons (pe_ix (ix_tupK K rfl) (pv 4) pe_int (fun _ _ => rfl)) (pa_cons (pv 9) pa_nil))) (pg_tupK K rfl (n := 2) rfl (pgs_cons (pg_name (i := 10) sc_numbered.nd rfl (Or.inl rfl)) (pgs_cons (pg_name (i := 3) sc_numbered.nd rfl (Or.inl rfl)) pgs_nil))))
      (pss_one (ps_expr (pe_bm PySem.F.plainAttrs_list PySem.F.slot_list_append PySem.F.type_list_append mt_append (pv 2) (pa_cons (pe_tup (pa_cons pe_str (pa_cons (pe_ix (ix_tupK K rfl) (pv 4) pe_int (fun _ _ => rfl)) (pa_cons (pv 8) (pa_cons (pv 10) pa_nil))))) pa_nil)))))) (pss_one (ps_if (pt_cmpR op_eq (pv 5) pe_str (nomark _)) (pss_cons (ps_expr (pe_bm PySem.F.plainAttrs_list PySem.F.slot_list_append PySem.F.type_list_append mt_append (pv 2) (pa_cons (pe_tup (pa_cons pe_str (pa_cons (pv 3) pa_nil))) pa_nil)))
      (pss_one (ps_aug (i := 3) sc_numbered.nd rfl (Or.inl rfl) pe_int ip_add))) (pss_one (ps_if (pt_cmpR op_eq (pv 5) pe_str (nomark _)) (pss_cons (ps_expr (pe_bm PySem.F.plainAttrs_list PySem.F.slot_list_append PySem.F.type_list_append mt_append (pv 2) (pa_cons (pe_op (op_catAK K rfl) (pv 4) (pe_tup (pa_cons (pv 3) pa_nil))) pa_nil)))
      (pss_one (ps_aug (i := 3) sc_numbered.nd rfl (Or.inl rfl) pe_int ip_add))) (pss_one (ps_expr (pe_bm PySem.F.plainAttrs_list PySem.F.slot_list_append PySem.F.type_list_append mt_append (pv 2) (pa_cons (pv 4) pa_nil))))))))))))))
      (pss_one (ps_ret (pe_tup (pa_cons (pe_callTy (call_tuple_ofK K rfl) (by rfl) T.m_tuple (by decide +kernel) (pa_cons (pv 2) pa_nil)) (pa_cons (pv 3) pa_nil)))))))), ?_⟩
    unfold Rep at hv
    obtain ⟨a, vs, rfl, ha, hr2⟩ := hv
    rw [das_map] at hr2
    have hvl : vs.length = b.length := by rw [hr2.len, List.length_map]
    refine q_asgR (ef_nil K) fun F us0 H1 hF e1 h1 r1 => ?_
    refine q_asg (ev_var rfl) fun H2 e2 => ?_
    refine q_seq (s_forT (xs := vs) (ev_var rfl) (st_of ((e1.trans e2) _ _ ha)) (fun i σ' H' => ∃ us x4 x5 x6 x7 x8 x9 x10, σ' = [some (.ref a), some (.int n), some (.ref F), some (.int ((b.take i).foldl (markF (mark d)) ([], n)).2), x4, x5, x6, x7, x8, x9, x10] ∧ Ex H H' ∧ H' F = some (.lst us) ∧ Reps K H' us (das ((b.take i).foldl (markF (mark d)) ([], n)).1))
      (fun H3 e3 => ⟨us0, _, _, _, _, _, _, _, rfl, (e1.trans e2).trans e3, (e2.trans e3) _ _ h1, by simpa [das] using r1.ex (e2.trans e3)⟩) (fun i σ' H' _ p => ?_) (fun i v σ' H' hvi p => ?_) (fun σ' H' p => ?_))
    · obtain ⟨_, _, _, _, _, _, _, _, _, e, _⟩ := p
      exact st_of (e _ _ ha)
    · obtain ⟨us, x4, x5, x6, x7, x8, x9, x10, rfl, e, hf, r⟩ := p
      obtain ⟨dd, hd, rd⟩ := hr2.get hvi
      rw [List.getElem?_map, Option.map_eq_some_iff] at hd
      obtain ⟨st, hst, rfl⟩ := hd
      have hm := List.mem_of_getElem? hst
      have hi4 : i < 4 := by
        have := (List.getElem?_eq_some_iff.mp hst).1
        have := hw.1
        omega
      have step : (b.take (i + 1)).foldl (markF (mark d)) ([], n) = markF (mark d) ((b.take i).foldl (markF (mark d)) ([], n)) st := by
        rw [take_succ_of hst, List.foldl_append]
        rfl
      have hlen : (das ((b.take i).foldl (markF (mark d)) ([], n)).1).length ≤ 4 := by
        rw [das_len, markF_len]
        simp only [List.length_nil, List.length_take]
        omega
      have fin : ∀ {H3 : Hp} {us3 : List V} {x4 x5 x6 x7 x8 x9 x10 : Option V} {k : Int} {s' : Stm}, Ex H H' → Exs F H' H3 → H3 F = some (.lst us3) → Reps K H3 us3 (das ((b.take i).foldl (markF (mark d)) ([], n)).1 ++ [s'.da]) → (s', k) = stepS (mark d) st ((b.take i).foldl (markF (mark d)) ([], n)).2 →
          ∃ us x4' x5' x6' x7' x8' x9' x10', [some (V.ref a), some (V.int n), some (V.ref F), some (.int k), x4, x5, x6, x7, x8, x9, x10] = [some (V.ref a), some (V.int n), some (V.ref F), some (V.int ((b.take (i + 1)).foldl (markF (mark d)) ([], n)).2), x4', x5', x6', x7', x8', x9', x10'] ∧ Ex H H3 ∧ H3 F = some (.lst us) ∧ Reps K H3 us (das ((b.take (i + 1)).foldl (markF (mark d)) ([], n)).1) := fun e x3 h3 r3 es => by
        rw [step, markF, ← es, das_app]
        exact ⟨_, _, _, _, _, _, _, _, rfl, exs_base hF e x3, h3, r3⟩
      generalize ((b.take i).foldl (markF (mark d)) ([], n)) = acc at r hlen fin ⊢
      obtain ⟨am, k⟩ := acc
      dsimp only at r hlen fin ⊢
      have hv3 := rd.ex e
      have hs2 := hw.2 st hm
      show tSeq _ _ _ [some (V.ref a), some (V.int n), some (V.ref F), some (.int k), some v, x5, x6, x7, x8, x9, x10] H'
      refine q_asg (ev_tag (ev_var rfl) hv3) fun H3 e3 => ?_
      refine s_if (et_strs (ev_var rfl) ev_c) (fun hB H4 e4 => ?_) (fun hB1 H4 e4 => ?_)
      · obtain ⟨t, x, o, rfl⟩ := tag_whl hB
        have e34 := e3.trans e4
        have hv4 := hv3.ex e34
        rw [Stm.da] at hv4
        refine q_asg2 (ep_callA (P := fun v H => Rep K H v (.t [.t (das (mark d x (k + 1)).1), .i (mark d x (k + 1)).2])) (er_cons (ev_ixR (i := 2) (ev_var rfl) hv4 rfl) (er_cons (ep_Ri (ev_op (ev_var rfl) ev_c rv_I0)) er_nil)) fun vs H5 e5 r5 Q' hQ E' => ?_) fun v1 v2 H5 e5 k1 k2 => ?_
        · obtain ⟨u1, u2, rfl, k1, k2⟩ := reps_two r5
          rw [rep_intv k2]
          exact ⟨u1, x, k + 1, rfl, k1, hs2.2, by omega, hQ⟩
        · rw [rep_intv k2]
          have e35 := e34.trans e5
          refine q_appR (e35 _ _ hf) (r.ex e35) (by omega) (ev_var rfl) (er_tup (er_cons (ep_Rs ev_c) (er_cons (ev_ixR (i := 1) (ev_var rfl) (hv4.ex e5) rfl) (er_cons (ep_R (ev_var rfl) k1) (er_cons (ep_Ri (ev_var rfl)) er_nil)))) (by simp)) fun H6 us6 x6' h6 r6 => ?_
          refine s_asg (ev_var rfl) fun H7 e7 => fin (s' := .whl t (mark d x (k + 1)).1 (some k)) e (((Ex.s e35).trans x6').trans (Ex.s e7)) (e7 _ _ h6) (by rw [Stm.da]; exact r6.ex e7) rfl
      · refine s_if (et_strs (ev_var rfl) ev_c) (fun hB H5 e5 => ?_) (fun hB2 H5 e5 => ?_)
        · obtain ⟨t, x, y, rfl⟩ := tag_ite hB
          have e35 := (e3.trans e4).trans e5
          have hv4 := hv3.ex e35
          rw [Stm.da] at hv4
          refine q_asg2 (ep_callA (P := fun v H => Rep K H v (.t [.t (das (mark d x k).1), .i (mark d x k).2])) (er_cons (ev_ixR (i := 2) (ev_var rfl) hv4 rfl) (er_cons (ep_Ri (ev_var rfl)) er_nil)) fun vs H6 e6 r6 Q' hQ E' => ?_) fun v1 v2 H6 e6 k1 k2 => ?_
          · obtain ⟨u1, u2, rfl, k1, k2⟩ := reps_two r6
            rw [rep_intv k2]
            exact ⟨u1, x, k, rfl, k1, hs2.1, by omega, hQ⟩
          · rw [rep_intv k2]
            refine q_asg2 (ep_callA (P := fun v H => Rep K H v (.t [.t (das (mark d y (mark d x k).2).1), .i (mark d y (mark d x k).2).2])) (er_cons (ev_ixR (i := 3) (ev_var rfl) (hv4.ex e6) rfl) (er_cons (ep_Ri (ev_var rfl)) er_nil)) fun vs H7 e7 r7 Q' hQ E' => ?_) fun v3 v4 H7 e7 k3 k4 => ?_
            · obtain ⟨u1, u2, rfl, k1, k2⟩ := reps_two r7
              rw [rep_intv k2]
              exact ⟨u1, y, _, rfl, k1, hs2.2, by omega, hQ⟩
            · rw [rep_intv k4]
              have e37 := (e35.trans e6).trans e7
              refine s_appR (e37 _ _ hf) (r.ex e37) (by omega) (ev_var rfl) (er_tup (er_cons (ep_Rs ev_c) (er_cons (ev_ixR (i := 1) (ev_var rfl) ((hv4.ex e6).ex e7) rfl) (er_cons (ep_R (ev_var rfl) (k1.ex e7)) (er_cons (ep_R (ev_var rfl) k3) er_nil)))) (by simp)) fun H8 us8 x8' h8 r8 => ?_
              exact fin (s' := .ite t (mark d x k).1 (mark d y (mark d x k).2).1) e ((Ex.s e37).trans x8') h8 (by rw [Stm.da]; exact r8) rfl
        · refine s_if (et_strs (ev_var rfl) ev_c) (fun hB H6 e6 => ?_) (fun hB3 H6 e6 => ?_)
          · obtain ⟨o, rfl⟩ := tag_pause hB
            have e36 := ((e3.trans e4).trans e5).trans e6
            refine q_appR (e36 _ _ hf) (r.ex e36) (by omega) (ev_var rfl) (er_tup (er_cons (ep_Rs ev_c) (er_cons (ep_Ri (ev_var rfl)) er_nil)) (by simp)) fun H7 us7 x7' h7 r7 => ?_
            refine s_aug (f := fun i j => i + j) rfl ev_c fun H8 e8 => fin (s' := .pause (some k)) e (((Ex.s e36).trans x7').trans (Ex.s e8)) (e8 _ _ h7) (by rw [Stm.da]; exact r7.ex e8) rfl
          · refine s_if (et_strs (ev_var rfl) ev_c) (fun hB H7 e7 => ?_) (fun hB4 H7 e7 => ?_)
            · obtain ⟨c, as, ts, o, rfl⟩ := tag_call hB
              have e37 := (((e3.trans e4).trans e5).trans e6).trans e7
              have hv7 := hv3.ex e37
              rw [Stm.da, hs2.1] at hv7
              refine q_appR (e37 _ _ hf) (r.ex e37) (by omega) (ev_var rfl) (er_catT (ep_R (ev_var rfl) hv7) (er_tup (er_cons (ep_Ri (ev_var rfl)) er_nil) (by simp)) (by simp [pts])) fun H8 us8 x8' h8 r8 => ?_
              refine s_aug (f := fun i j => i + j) rfl ev_c fun H9 e9 => fin (s' := .call c as ts (some k)) e (((Ex.s e37).trans x8').trans (Ex.s e9)) (e9 _ _ h8) (by rw [Stm.da]; exact r8.ex e9) rfl
            · have e37 := (((e3.trans e4).trans e5).trans e6).trans e7
              refine s_appR (e37 _ _ hf) (r.ex e37) (by omega) (ev_var rfl) (ep_R (ev_var rfl) (hv3.ex e37)) fun H8 us8 x8' h8 r8 => ?_
              refine fin (s' := st) (k := k) e ((Ex.s e37).trans x8') h8 r8 ?_
              cases st <;> first | rfl | exact absurd rfl (of_decide_eq_false hB1) | exact absurd rfl (of_decide_eq_false hB2) | exact absurd rfl (of_decide_eq_false hB3) | exact absurd rfl (of_decide_eq_false hB4)
    · obtain ⟨us, x4, x5, x6, x7, x8, x9, x10, rfl, e, hf, r⟩ := p
      rw [hvl, List.take_length] at r ⊢
      have em : mark (d + 1) b n = b.foldl (markF (mark d)) ([], n) := rfl
      rw [← em] at r ⊢
      refine s_retP (P := fun v H => Rep K H v (.t [.t (das (mark (d + 1) b n).1), .i (mark (d + 1) b n).2])) (er_tup (er_cons (er_tupL (te := tVar 2) (ds := das (mark (d + 1) b n).1) fun H3 e3 Q3 q3 => ?_) (er_cons (ep_Ri (ev_var rfl)) er_nil)) (by simp)) (fun v3 H3 e3 r3 => q v3 H3 (e.trans e3) r3)
      exact ⟨.ref F, rfl, q3 _ H3 (Ex.refl _) ⟨F, us, rfl, e3 _ _ hf, r.ex e3⟩⟩
end
end K88

set_option maxHeartbeats 4000000
namespace K88
open PySem L2 Evl
def spPlc (K : PySem.W.Frag) (d : Nat) : Sp := fun vs H Q _ => ∃ (v1 v2 v3 : V) (b : List Stm) (rest : Da) (nest : List Int), vs = [v1, v2, v3] ∧ Rep K H v1 (.t (das b)) ∧ Rep K H v2 rest ∧ Rep K H v3 (di nest) ∧ nest.length + d ≤ 4 ∧ Nb d b ∧ RetLR K ((plc d b rest nest).map Pl.da) H Q
def spNin (K : PySem.W.Frag) : Sp := fun vs H Q _ => ∃ (v : V) (b : List Stm), vs = [v] ∧ Rep K H v (.t (das b)) ∧ Nb 4 b ∧ RetP (fun v H => Rep K H v (.t (([] :: nst 4 b []).map di))) H Q
def spNof (K : PySem.W.Frag) : Sp := fun vs H Q _ => ∃ (v : V) (C : List Prc) (p : Prc), vs = [v, .str p.name] ∧ Rep K H v (coreDa C) ∧ OkC C ∧ p ∈ C ∧ RetP (fun v H => Rep K H v (.t (([] :: nst 4 (mark 4 p.body 1).1 []).map di))) H Q
theorem di_app (a : List Int) (k : Int) : a.map Da.i ++ [.i k] = (a ++ [k]).map Da.i := by rw [List.map_append]; rfl
theorem acc_of {K : PySem.W.Frag} {H0 H : Hp} {SI : Addr → L2.St → Prop} {l : List Da} {σ : L2.St} {F : Addr} {us : List V} (e : Ex H0 H) (hF : H0 F = none) (si : SI F σ) (hf : H F = some (.lst us)) (r : Reps K H us l) {l' : List Da} (el : l' = l) : Acc K H0 SI l' σ H := ⟨F, us, e, hF, si, hf, el ▸ r⟩
section
variable {P : Program} {w : World} {K : PySem.W.Frag} {mg : Str → Option Value} {base : Heap}
theorem sc_places_in : FnScope ["body", "rest", "nest", "found", "index", "statement", "after", "kind", "inner"] ["body", "rest", "nest"] (defScope (topS 18)) := ⟨rfl, rfl, rfl, by decide +kernel, rfl, by decide +kernel, by decide +kernel⟩
theorem ok_places_in {d : Nat} {f : Addr} {fd : FuncData} (F : FnP K "places_in" "places_in" (topS 18) f fd) (T : Bt mg) (h_places_in : Has P w K mg base "places_in" ["body", "rest", "nest"] (0 + d) (spPlc K d)) : FnOk P w K mg base CX0 (0 + d + 1) f fd ["body", "rest", "nest"] (spPlc K (d + 1)) := by
  refine F.ok sc_places_in (fun vs H Q E h => ?_) (fun cdv A outer s H vs Q E hr h => ?_)
  · obtain ⟨v1, v2, v3, b, rest, nest, rfl, _⟩ := h
    rfl
  · obtain ⟨v1, v2, v3, b, rest, nest, rfl, hv1, hv2, hv3, hd4, hw, q⟩ := h
    refine ⟨_, PSs.nox
      (pss_cons (ps_set (i := 3) sc_places_in.nd rfl (Or.inl rfl) (pe_lst pa_nil))
      (pss_cons (ps_for PassesOwn.never rfl (pi_enumTK K rfl (by rfl) T.m_enumerate (pa_cons (pv 0) pa_nil)) (pg_tupK K rfl (n := 2) rfl (pgs_cons (pg_name (i := 4) sc_places_in.nd rfl (Or.inl rfl)) (pgs_cons (pg_name (i := 5) sc_places_in.nd rfl (Or.inl rfl)) pgs_nil))) (pss_cons (ps_set (i := 6) sc_places_in.nd rfl (Or.inl rfl) (pe_tup (pa_cons pe_str (pa_cons (pv 0) (pa_cons (pe_op op_add (pv 4) pe_int) (pa_cons (pv 1) pa_nil))))))
      (pss_cons (ps_set (i := 7) sc_places_in.nd rfl (Or.inl rfl) (pe_ix (ix_tupK K rfl) (pv 5) pe_int (fun _ _ => rfl)))
      (pss_one (ps_if (pt_cmpR op_eq (pv 7) pe_str (nomark _)) (pss_cons (ps_set (i := 8) sc_places_in.nd rfl (Or.inl rfl) (pe_op (op_catAK K rfl) (pv 2) (pe_tup (pa_cons (pe_ix (ix_tupK K rfl) (pv 5) pe_int (fun _ _ => rfl)) pa_nil))))
      (pss_cons (ps_expr (pe_bm PySem.F.plainAttrs_list PySem.F.slot_list_append PySem.F.type_list_append mt_append (pv 3) (pa_cons (pe_tup (pa_cons (pe_ix (ix_tupK K rfl) (pv 5) pe_int (fun _ _ => rfl)) (pa_cons (pv 5) (pa_cons (pv 6) (pa_cons (pv 8) pa_nil))))) pa_nil)))
      (pss_one (ps_expr (pe_bm PySem.F.plainAttrs_list PySem.F.slot_list_extend PySem.F.type_list_extend mt_extend (pv 3) (pa_cons (pe_callH h_places_in (hr.mono (by omega)) (by rfl) (pa_cons (pe_ix (ix_tupK K rfl) (pv 5) pe_int (fun _ _ => rfl)) (pa_cons (pe_tup (pa_cons pe_str (pa_cons (pe_ix (ix_tupK K rfl) (pv 5) pe_int (fun _ _ => rfl)) pa_nil))) (pa_cons (pv 8) pa_nil)))) pa_nil)))))) (pss_one (ps_if (pt_cmpR op_eq (pv 7) pe_str (nomark _)) (pss_cons (ps_expr (pe_bm PySem.F.plainAttrs_list PySem.F.slot_list_extend PySem.F.type_list_extend mt_extend (pv 3) (pa_cons (pe_callH h_places_in (hr.mono (by omega)) (by rfl) (pa_cons (pe_ix (ix_tupK K rfl) (pv 5) pe_int (fun _ _ => rfl)) (pa_cons (pv 6) (pa_cons (pv 2) pa_nil)))) pa_nil)))
      (pss_one (ps_expr (pe_bm PySem.F.plainAttrs_list PySem.F.slot_list_extend PySem.F.type_list_extend mt_extend (pv 3) (pa_cons (pe_callH h_places_in (hr.mono (by omega)) (by rfl) (pa_cons (pe_ix (ix_tupK K rfl) (pv 5) pe_int (fun _ _ => rfl)) (pa_cons (pv 6) (pa_cons (pv 2) pa_nil)))) pa_nil))))) (pss_one (ps_if (pt_cmpR op_eq (pv 7) pe_str (nomark _)) (pss_one (ps_expr (pe_bm PySem.F.plainAttrs_list PySem.F.slot_list_append PySem.F.type_list_append mt_append (pv 3) (pa_cons (pe_tup (pa_cons (pe_ix (ix_tupK K rfl) (pv 5) pe_int (fun _ _ => rfl)) (pa_cons (pv 5) (pa_cons (pv 6) (pa_cons (pv 2) pa_nil))))) pa_nil)))) (pss_one (ps_if (pt_cmpR op_eq (pv 7) pe_str (nomark _)) (pss_one (ps_expr (pe_bm PySem.F.plainAttrs_list PySem.F.slot_list_append PySem.F.type_list_append mt_append (pv 3) (pa_cons (pe_tup (pa_cons (pe_ix (ix_tupK K rfl) (pv 5) pe_int (fun _ _ => rfl)) (pa_cons (pv 5) (pa_cons (pv 6) (pa_cons (pv 2) pa_nil))))) pa_nil)))) pss_nil)))))))))))
      (pss_one (ps_ret (pv 3))))), ?_⟩
    have hv1' := hv1
    unfold Rep at hv1
    obtain ⟨a, vs, rfl, ha, hr2⟩ := hv1
    rw [das_map] at hr2
    have hcap := plc_len (d + 1) b rest nest hw
    have hc4 := fcap_le (d := d + 1) (by omega)
    have hc5 := fcap_le (d := d) (by omega)
    refine q_asgR (ef_nil K) fun F us0 H1 hF e1 h1 r1 => ?_
    refine q_seq (s_accEn (H0 := H) (b := b) (g := Stm.da) (f := fun x => (plcS (plc d) (aftD b x.2 rest) nest x.1).map Pl.da) (l0 := []) (SI := fun F σ => ∃ x4 x5 x6 x7 x8, σ = [some (.ref a), some v2, some v3, some (.ref F), x4, x5, x6, x7, x8]) (ea_cons (ev_var rfl) ea_nil) ha hr2 ⟨F, us0, e1, hF, ⟨_, _, _, _, _, rfl⟩, h1, r1⟩ ?_ ?_)
    · rintro i st v σ' H' hst hv0 ⟨F, us, e, hF, ⟨x4, x5, x6, x7, x8, rfl⟩, hf, r⟩
      have hm := List.mem_of_getElem? hst
      have hv := hv0.ex e
      have h2 := hw.2 st hm
      have hz : (([] : List Da) ++ ((b.zipIdx.take i).flatMap fun x => (plcS (plc d) (aftD b x.2 rest) nest x.1).map Pl.da)).length ≤ 2340 := by
        rw [List.nil_append]
        refine Nat.le_trans (len_take_flat i) ?_
        rw [← List.map_flatMap, List.length_map]
        exact Nat.le_trans hcap hc4
      generalize (([] : List Da) ++ ((b.zipIdx.take i).flatMap fun x => (plcS (plc d) (aftD b x.2 rest) nest x.1).map Pl.da)) = l0 at hz r ⊢
      have fin : ∀ {H2 : Hp} {us2 : List V} {x6 x7 x8 : Option V} {l' : List Da}, Ex H H2 → H2 F = some (.lst us2) → Reps K H2 us2 l' → (l0 ++ (plcS (plc d) (aftD b i rest) nest st).map Pl.da) = l' →
          Acc K H (fun F σ => ∃ x4 x5 x6 x7 x8, σ = [some (.ref a), some v2, some v3, some (.ref F), x4, x5, x6, x7, x8]) (l0 ++ (plcS (plc d) (aftD b i rest) nest st).map Pl.da) [some (.ref a), some v2, some v3, some (.ref F), some (.int (i : Int)), some v, x6, x7, x8] H2 := fun e h r el => acc_of e hF ⟨_, _, _, _, _, rfl⟩ h r el
      show tSeq _ _ _ [some (V.ref a), some v2, some v3, some (.ref F), some (.int (i : Int)), some v, x6, x7, x8] H'
      -- after = ('body', body, index + 1, rest)
      refine q_asgP (P := fun v H => Rep K H v (aftD b i rest)) (er_tup (er_cons (ep_Rs ev_c) (er_cons (ep_R (ev_var rfl) (hv1'.ex e)) (er_cons (ep_Ri (ev_op (ev_var rfl) ev_c rv_I0)) (er_cons (ep_R (ev_var rfl) (hv2.ex e)) er_nil)))) (by simp)) fun va H2 e2 ra => ?_
      refine q_asg (ev_tag (ev_var rfl) (hv.ex e2)) fun H3 e3 => ?_
      have e23 := e2.trans e3
      have ra3 := ra.ex e3
      have hv3' := hv.ex e23
      refine s_if (et_strs (ev_var rfl) ev_c) (fun hB H4 e4 => ?_) (fun hB1 H4 e4 => ?_)
      · obtain ⟨t, x, o, rfl⟩ := tag_whl hB
        cases o with
        | none => exact absurd rfl h2.1
        | some k =>
          have e24 := e23.trans e4
          have hv4 := hv3'.ex e4
          have hv4s := hv4
          rw [Stm.da] at hv4
          refine q_asgP (P := fun v H => Rep K H v (di (nest ++ [k]))) ?_ fun vi H5 e5 ri => ?_
          · unfold di
            rw [← di_app]
            refine er_catT (ep_R (ev_var rfl) (hv3.ex (e.trans e24))) (er_tup (er_cons (ev_ixR (i := 3) (ev_var rfl) hv4 rfl) er_nil) (by simp)) ?_
            simp only [List.length_map, List.length_singleton]
            omega
          · have e25 := e24.trans e5
            refine q_appR (d := Pl.da ⟨k, .whl t x (some k), aftD b i rest, nest ++ [k]⟩) (e25 _ _ hf) (r.ex e25) (by omega) (ev_var rfl) (er_tup (er_cons (ev_ixR (i := 3) (ev_var rfl) (hv4.ex e5) rfl) (er_cons (ep_R (ev_var rfl) (hv4s.ex e5)) (er_cons (ep_R (ev_var rfl) (ra3.ex (e4.trans e5))) (er_cons (ep_R (ev_var rfl) ri) er_nil)))) (by simp)) fun H6 us6 x6' h6 r6 => ?_
            have hv6 := (hv4.ex e5).exs (e25 _ _ hf) x6'
            have ri6 := ri.exs (e25 _ _ hf) x6'
            have hpl := plc_len d x (.t [.s "loop", .i k]) (nest ++ [k]) h2.2
            refine s_extR (ds := (plc d x (.t [.s "loop", .i k]) (nest ++ [k])).map Pl.da) h6 r6 (by rw [List.length_append, List.length_map, List.length_singleton]; omega) (ev_var rfl) (ep_LR (ef_callRA (er_cons (ev_ixR (i := 2) (ev_var rfl) hv6 rfl) (er_cons (er_tup (er_cons (ep_Rs ev_c) (er_cons (ev_ixR (i := 3) (ev_var rfl) hv6 rfl) er_nil)) (by simp)) (er_cons (ep_R (ev_var rfl) ri6) er_nil))) fun vs H7 e7 r7 Q' hQ E' => ?_)) fun H8 us8 x8' h8 r8 => ?_
            · obtain ⟨u1, u2, u3, rfl, k1, k2, k3⟩ := reps_three r7
              exact ⟨u1, u2, u3, x, _, nest ++ [k], rfl, k1, k2, k3, by rw [List.length_append, List.length_singleton]; omega, h2.2, hQ⟩
            · exact (fin (exs_base hF e (((Ex.s e25).trans x6').trans x8')) h8 r8 (by rw [List.append_assoc]; rfl))
      · refine s_if (et_strs (ev_var rfl) ev_c) (fun hB H5 e5 => ?_) (fun hB2 H5 e5 => ?_)
        · obtain ⟨t, x, y, rfl⟩ := tag_ite hB
          have e25 := (e23.trans e4).trans e5
          have hv4 := hv3'.ex (e4.trans e5)
          rw [Stm.da] at hv4
          have hn5 := hv3.ex (e.trans e25)
          have ra5 := ra3.ex (e4.trans e5)
          have hp1 := plc_len d x (aftD b i rest) nest h2.1
          have hp2 := plc_len d y (aftD b i rest) nest h2.2
          refine q_seq (s_extR (ds := (plc d x (aftD b i rest) nest).map Pl.da) (e25 _ _ hf) (r.ex e25) (by rw [List.length_map]; omega) (ev_var rfl) (ep_LR (ef_callRA (er_cons (ev_ixR (i := 2) (ev_var rfl) hv4 rfl) (er_cons (ep_R (ev_var rfl) ra5) (er_cons (ep_R (ev_var rfl) hn5) er_nil))) fun vs H7 e7 r7 Q' hQ E' => ?_)) fun H8 us8 x8' h8 r8 => ?_)
          · obtain ⟨u1, u2, u3, rfl, k1, k2, k3⟩ := reps_three r7
            exact ⟨u1, u2, u3, x, _, nest, rfl, k1, k2, k3, by omega, h2.1, hQ⟩
          · have hv8 := hv4.exs (e25 _ _ hf) x8'
            have ra8 := ra5.exs (e25 _ _ hf) x8'
            have hn8 := hn5.exs (e25 _ _ hf) x8'
            refine s_extR (ds := (plc d y (aftD b i rest) nest).map Pl.da) h8 r8 (by rw [List.length_append, List.length_map, List.length_map]; omega) (ev_var rfl) (ep_LR (ef_callRA (er_cons (ev_ixR (i := 3) (ev_var rfl) hv8 rfl) (er_cons (ep_R (ev_var rfl) ra8) (er_cons (ep_R (ev_var rfl) hn8) er_nil))) fun vs H7 e7 r7 Q' hQ E' => ?_)) fun H9 us9 x9' h9 r9 => ?_
            · obtain ⟨u1, u2, u3, rfl, k1, k2, k3⟩ := reps_three r7
              exact ⟨u1, u2, u3, y, _, nest, rfl, k1, k2, k3, by omega, h2.2, hQ⟩
            · exact (fin (exs_base hF e (((Ex.s e25).trans x8').trans x9')) h9 r9 (by rw [List.append_assoc, ← List.map_append]; rfl))
        · refine s_if (et_strs (ev_var rfl) ev_c) (fun hB H6 e6 => ?_) (fun hB3 H6 e6 => ?_)
          · obtain ⟨o, rfl⟩ := tag_pause hB
            cases o with
            | none => exact absurd rfl h2
            | some k =>
              have e46 := (e4.trans e5).trans e6
              have e26 := e23.trans e46
              have hv6 := hv3'.ex e46
              have hv6s := hv6
              rw [Stm.da] at hv6
              refine s_appR (d := Pl.da ⟨k, .pause (some k), aftD b i rest, nest⟩) (e26 _ _ hf) (r.ex e26) (by omega) (ev_var rfl) (er_tup (er_cons (ev_ixR (i := 1) (ev_var rfl) hv6 rfl) (er_cons (ep_R (ev_var rfl) hv6s) (er_cons (ep_R (ev_var rfl) (ra3.ex e46)) (er_cons (ep_R (ev_var rfl) (hv3.ex (e.trans e26))) er_nil)))) (by simp)) fun H7 us7 x7' h7 r7 => ?_
              exact (fin (exs_base hF e ((Ex.s e26).trans x7')) h7 r7 rfl)
          · refine s_when (et_strs (ev_var rfl) ev_c) (fun hB H7 e7 => ?_) (fun hB4 H7 e7 => ?_)
            · obtain ⟨c, as, ts, o, rfl⟩ := tag_call hB
              cases o with
              | none => exact absurd rfl h2
              | some k =>
                have e46 := ((e4.trans e5).trans e6).trans e7
                have e26 := e23.trans e46
                have hv6 := hv3'.ex e46
                have hv6s := hv6
                rw [Stm.da] at hv6
                refine s_appR (d := Pl.da ⟨k, .call c as ts (some k), aftD b i rest, nest⟩) (e26 _ _ hf) (r.ex e26) (by omega) (ev_var rfl) (er_tup (er_cons (ev_ixR (i := 4) (ev_var rfl) hv6 rfl) (er_cons (ep_R (ev_var rfl) hv6s) (er_cons (ep_R (ev_var rfl) (ra3.ex e46)) (er_cons (ep_R (ev_var rfl) (hv3.ex (e.trans e26))) er_nil)))) (by simp)) fun H8 us8 x8' h8 r8 => ?_
                exact (fin (exs_base hF e ((Ex.s e26).trans x8')) h8 r8 rfl)
            · have e27 := e23.trans (((e4.trans e5).trans e6).trans e7)
              refine (fin (e.trans e27) (e27 _ _ hf) (r.ex e27) ?_)
              cases st <;> first | exact List.append_nil _ | exact absurd rfl (of_decide_eq_false hB1) | exact absurd rfl (of_decide_eq_false hB2) | exact absurd rfl (of_decide_eq_false hB3) | exact absurd rfl (of_decide_eq_false hB4)
    · rintro σ' H' ⟨F, us, e, hF, ⟨x4, x5, x6, x7, x8, rfl⟩, hf, r⟩
      refine s_ret (ev_var rfl) fun H3 e3 => q F us H3 hF (e.trans e3) (e3 _ _ hf) ?_
      rw [plc, List.map_flatMap]
      exact r.ex e3
theorem sc_nests_in : FnScope ["body", "found", "point", "statement", "after", "nest"] ["body"] (defScope (topS 19)) := ⟨rfl, rfl, rfl, by decide +kernel, rfl, by decide +kernel, by decide +kernel⟩
theorem ok_nests_in {f : Addr} {fd : FuncData} (F : FnP K "nests_in" "nests_in" (topS 19) f fd) (T : Bt mg) (h_places_in : Has P w K mg base "places_in" ["body", "rest", "nest"] 4 (spPlc K 4)) : FnOk P w K mg base CX0 5 f fd ["body"] (spNin K) := by
  refine F.ok sc_nests_in (fun vs H Q E h => ?_) (fun cdv A outer s H vs Q E hr h => ?_)
  · obtain ⟨v, b, rfl, _⟩ := h
    rfl
  · obtain ⟨v, b, rfl, hv, hw, q⟩ := h
    refine ⟨_, PSs.nox
      (pss_cons (ps_set (i := 1) sc_nests_in.nd rfl (Or.inl rfl) (pe_lst (pa_cons (pe_tup pa_nil) pa_nil)))
      (pss_cons (ps_for PassesOwn.never rfl (pi_listK K rfl (pe_callH h_places_in (hr.mono (by decide)) (by rfl) (pa_cons (pv 0) (pa_cons (pe_tup pa_nil) (pa_cons (pe_tup pa_nil) pa_nil))))) (pg_tupK K rfl (n := 4) rfl (pgs_cons (pg_name (i := 2) sc_nests_in.nd rfl (Or.inl rfl)) (pgs_cons (pg_name (i := 3) sc_nests_in.nd rfl (Or.inl rfl)) (pgs_cons (pg_name (i := 4) sc_nests_in.nd rfl (Or.inl rfl)) (pgs_cons (pg_name (i := 5) sc_nests_in.nd rfl (Or.inl rfl)) pgs_nil))))) (pss_cons (ps_expr (pe_bm PySem.F.plainAttrs_list PySem.F.slot_list_append PySem.F.type_list_append mt_append (pv 1) (pa_cons (pv 5) pa_nil)))
      (pss_one (ps_if (pt_cmpR op_eq (pe_ix (ix_tupK K rfl) (pv 3) pe_int (fun _ _ => rfl)) pe_str (nomark _)) (pss_one (ps_expr (pe_bm PySem.F.plainAttrs_list PySem.F.slot_list_append PySem.F.type_list_append mt_append (pv 1) (pa_cons (pv 5) pa_nil)))) pss_nil))))
      (pss_one (ps_ret (pe_callTy (call_tuple_ofK K rfl) (by rfl) T.m_tuple (by decide +kernel) (pa_cons (pv 1) pa_nil)))))), ?_⟩
    have hpl := plc_len 4 b (.t []) [] hw
    rw [fcap4] at hpl
    refine q_asgR (er_lst (K := K) (ds := [di []]) (er_cons (er_tup er_nil (by simp)) er_nil) (by simp)) fun F us0 H1 hF e1 h1 r1 => ?_
    refine q_seq (s_accLG (K := K) (H0 := H) (b := plc 4 b (.t []) []) (g := Pl.da) (f := fun p => p.nests.map di) (l0 := [di []]) (SI := fun F σ => ∃ x2 x3 x4 x5, σ = [some v, some (.ref F), x2, x3, x4, x5]) (ef_callRA (er_cons (ep_R (ev_var rfl) (hv.ex e1)) (er_cons (er_tup er_nil (by simp)) (er_cons (er_tup er_nil (by simp)) er_nil))) fun vs H7 e7 r7 Q' hQ E' => ?_) ⟨F, us0, e1, hF, ⟨_, _, _, _, rfl⟩, h1, r1⟩ ?_ ?_)
    · obtain ⟨u1, u2, u3, rfl, k1, k2, k3⟩ := reps_three r7
      exact ⟨u1, u2, u3, b, .t [], [], rfl, k1, k2, k3, by simp, hw, hQ⟩
    · rintro H0' i p v' σ' H' e0 _ hp hv0 ⟨F, us, e, hF, ⟨x2, x3, x4, x5, rfl⟩, hf, r⟩
      have hz : ([di []] ++ (((plc 4 b (.t []) []).take i).flatMap fun p => p.nests.map di)).length ≤ 4700 := by
        rw [List.length_append, List.length_singleton]
        have := flatMap_len (fun p : Pl => p.nests.map di) 2 ((plc 4 b (.t []) []).take i) fun x _ => by rw [List.length_map]; unfold Pl.nests; split <;> simp
        have h3 := List.length_take_le' i (plc 4 b (.t []) [])
        omega
      generalize ([di []] ++ (((plc 4 b (.t []) []).take i).flatMap fun p => p.nests.map di)) = l0 at hz r ⊢
      have fin : ∀ {H2 : Hp} {us2 : List V} {x2 x3 x4 x5 : Option V} {l' : List Da}, Ex H0' H2 → H2 F = some (.lst us2) → Reps K H2 us2 l' → (l0 ++ p.nests.map di) = l' →
          Acc K H0' (fun F σ => ∃ x2 x3 x4 x5, σ = [some v, some (.ref F), x2, x3, x4, x5]) (l0 ++ p.nests.map di) [some v, some (.ref F), x2, x3, x4, x5] H2 := fun e h r el => acc_of e hF ⟨_, _, _, _, rfl⟩ h r el
      have hv' := hv0.ex e
      unfold Pl.da Rep at hv'
      obtain ⟨t, ws, rfl, ht, hr4⟩ := hv'
      unfold Reps at hr4
      obtain ⟨w1, ws, rfl, k1, hr4⟩ := hr4
      obtain ⟨w2, w3, w4, rfl, k2, k3, k4⟩ := reps_three hr4
      refine ⟨t, _, rfl, .inl (.inl ht), rfl, w1, _, rfl, w2, _, rfl, w3, _, rfl, w4, [], rfl, rfl, ?_⟩
      refine q_appR (d := di p.nest) hf r (by omega) (ev_var rfl) (ep_R (ev_var rfl) k4) fun H5 us5 x5' h5 r5 => ?_
      have k25 := k2.exs hf x5'
      refine s_when (et_tag (ev_var rfl) k25) (fun hB H6 e6 => ?_) (fun hB H6 e6 => ?_)
      · refine s_appR (d := di p.nest) (e6 _ _ h5) (r5.ex e6) (by rw [List.length_append, List.length_singleton]; omega) (ev_var rfl) (ep_R (ev_var rfl) ((k4.exs hf x5').ex e6)) fun H7 us7 x7' h7 r7 => ?_
        refine (fin (exs_base hF e ((x5'.trans (Ex.s e6)).trans x7')) h7 r7 ?_)
        rw [tag_isCall] at hB
        unfold Pl.nests
        rw [hB, if_pos rfl, List.append_assoc]
        rfl
      · refine (fin ((exs_base hF e x5').trans e6) (e6 _ _ h5) (r5.ex e6) ?_)
        rw [tag_isCall] at hB
        unfold Pl.nests
        rw [hB, if_neg (by decide)]
        rfl
    · rintro σ' H' ⟨F, us, e, hF, ⟨x2, x3, x4, x5, rfl⟩, hf, r⟩
      refine s_retP (P := fun v H => Rep K H v (.t (([] :: nst 4 b []).map di))) (er_tupL (te := tVar 1) fun H3 e3 Q3 q3 => ⟨.ref F, rfl, q3 _ H3 (Ex.refl _) ⟨F, us, rfl, e3 _ _ hf, ?_⟩⟩) (fun v3 H3 e3 r3 => q v3 H3 (e.trans e3) r3)
      rw [← plc_nst 4 b (.t []) [] hw, List.map_cons, List.map_flatMap]
      exact r.ex e3
theorem sc_nests_of : FnScope ["core", "name"] ["core", "name"] (defScope (topS 21)) := ⟨rfl, rfl, rfl, by decide +kernel, rfl, by decide +kernel, by decide +kernel⟩
theorem ok_nests_of {f : Addr} {fd : FuncData} (F : FnP K "nests_of" "nests_of" (topS 21) f fd) (T : Bt mg) (h_nests_in : Has P w K mg base "nests_in" ["body"] 5 (spNin K)) (h_numbered : Has P w K mg base "numbered" ["body", "first"] 4 (spNum K 4)) (h_proc_named : Has P w K mg base "proc_named" ["core", "name"] 1 (spProc K)) : FnOk P w K mg base CX0 6 f fd ["core", "name"] (spNof K) := by
  refine F.ok sc_nests_of (fun vs H Q E h => ?_) (fun cdv A outer s H vs Q E hr h => ?_)
  · obtain ⟨v, C, p, rfl, _⟩ := h
    rfl
  · obtain ⟨v, C, p, rfl, hv, hC, hp, q⟩ := h
    refine ⟨_, PSs.nox
      (pss_one (ps_ret (pe_callH h_nests_in (hr.mono (by decide)) (by rfl) (pa_cons (pe_ix (ix_tupK K rfl) (pe_callH h_numbered (hr.mono (by decide)) (by rfl) (pa_cons (pe_ix (ix_tupK K rfl) (pe_callH h_proc_named (hr.mono (by decide)) (by rfl) (pa_cons (pv 0) (pa_cons (pv 1) pa_nil))) pe_int (fun _ _ => rfl)) (pa_cons pe_int pa_nil))) pe_int (fun _ _ => rfl)) pa_nil)))), ?_⟩
    have hP := hC.ok p hp
    refine s_retP (P := fun v H => Rep K H v (.t (([] :: nst 4 (mark 4 p.body 1).1 []).map di))) (ep_callA (PA := fun vs H => Reps K H vs [.t (das (mark 4 p.body 1).1)]) (er_cons ?_ er_nil) fun vs H1 e1 r1 Q' hQ E' => ?_) q
    · refine ep_call3 (K := K) (D := .t [.t (das (mark 4 p.body 1).1), .i (mark 4 p.body 1).2]) (PA := fun vs H => Reps K H vs [.t (das p.body), .i 1]) (er_cons ?_ (er_cons (ep_Ri ev_c) er_nil)) (fun vs H1 e1 r1 Q' hQ E' => ?_) fun v1 H1 e1 r1 => ev_ixR (i := 0) ev_c r1 rfl
      · refine ep_call3 (K := K) (D := p.da) (PA := fun vs H => Reps K H vs [coreDa C, .s p.name]) (er_cons (ep_R (ev_var rfl) hv) (er_cons (ep_Rs (ev_var rfl)) er_nil)) (fun vs H1 e1 r1 Q' hQ E' => ?_) fun v1 H1 e1 r1 => ?_
        · obtain ⟨u1, u2, rfl, k1, k2⟩ := reps_two r1
          rw [rep_str k2]
          exact ⟨u1, C, p.name, p, rfl, k1, hC.n6, find_of hC hp, hQ⟩
        · rw [prc_da] at r1
          exact ev_ixR (i := 8) ev_c r1 rfl
      · obtain ⟨u1, u2, rfl, k1, k2⟩ := reps_two r1
        rw [rep_intv k2]
        exact ⟨u1, p.body, 1, rfl, k1, hP.wb, Nat.le_refl _, hQ⟩
    · obtain ⟨u1, rfl, k1⟩ := reps_one r1
      exact ⟨u1, _, rfl, k1, mark_nb 4 p.body 1 hP.wb, hQ⟩
end
end K88

set_option maxHeartbeats 4000000
namespace K88
open PySem L2 Evl
def spLNst (K : PySem.W.Frag) (d : Nat) : Sp := fun vs H Q _ => ∃ (v1 v2 : V) (b : List Stm) (nest : List Int), vs = [v1, v2] ∧ Rep K H v1 (.t (das b)) ∧ Rep K H v2 (di nest) ∧ nest.length + d ≤ 4 ∧ Nb d b ∧ RetLR K ((nst d b nest).map di) H Q
section
variable {P : Program} {w : World} {K : PySem.W.Frag} {mg : Str → Option Value} {base : Heap} {σ : L2.St} {H : Hp} {te : TE}
theorem ep_lst {F : Addr} {us : List V} {l : List Da} (h : Ev te σ H (.ref F)) (hf : H F = some (.lst us)) (r : Reps K H us l) : EvP te σ H (IsLR K l) := fun H1 e Q q => h H1 e _ fun H2 e2 => q _ H2 e2 ⟨F, us, rfl, (e.trans e2) _ _ hf, r.ex (e.trans e2)⟩
theorem sc_law_statements : FnScope ["body", "found", "s"] ["body"] (defScope (topS 30)) := ⟨rfl, rfl, rfl, by decide +kernel, rfl, by decide +kernel, by decide +kernel⟩
theorem ok_law_statements {d : Nat} {f : Addr} {fd : FuncData} (F : FnP K "_law_statements" "_law_statements" (topS 30) f fd) (T : Bt mg) (h_law_statements : Has P w K mg base "_law_statements" ["body"] (0 + d) (spStmts K d)) : FnOk P w K mg base CX0 (0 + d + 1) f fd ["body"] (spStmts K (d + 1)) := by
  refine F.ok sc_law_statements (fun vs H Q E h => ?_) (fun cdv A outer s H vs Q E hr h => ?_)
  · obtain ⟨v, b, rfl, _⟩ := h
    rfl
  · obtain ⟨v, b, rfl, hv, hw, hd4, q⟩ := h
    refine ⟨_, PSs.nox
      (pss_cons (ps_set (i := 1) sc_law_statements.nd rfl (Or.inl rfl) (pe_lst pa_nil))
      (pss_cons (ps_for PassesOwn.never rfl (pi_tupK K rfl (pv 0)) (pg_name (i := 2) sc_law_statements.nd rfl (Or.inl rfl)) (pss_cons (ps_expr (pe_bm PySem.F.plainAttrs_list PySem.F.slot_list_append PySem.F.type_list_append mt_append (pv 1) (pa_cons (pv 2) pa_nil)))
      (pss_one (ps_if (pt_cmpR op_eq (pe_ix (ix_tupK K rfl) (pv 2) pe_int (fun _ _ => rfl)) pe_str (nomark _)) (pss_one (ps_set (i := 1) sc_law_statements.nd rfl (Or.inl rfl) (pe_op op_cat (pv 1) (pe_callH h_law_statements (hr.mono (by omega)) (by rfl) (pa_cons (pe_ix (ix_tupK K rfl) (pv 2) pe_int (fun _ _ => rfl)) pa_nil))))) (pss_one (ps_if (pt_cmpR op_eq (pe_ix (ix_tupK K rfl) (pv 2) pe_int (fun _ _ => rfl)) pe_str (nomark _)) (pss_one (ps_set (i := 1) sc_law_statements.nd rfl (Or.inl rfl) (pe_op op_cat (pe_op op_cat (pv 1) (pe_callH h_law_statements (hr.mono (by omega)) (by rfl) (pa_cons (pe_ix (ix_tupK K rfl) (pv 2) pe_int (fun _ _ => rfl)) pa_nil))) (pe_callH h_law_statements (hr.mono (by omega)) (by rfl) (pa_cons (pe_ix (ix_tupK K rfl) (pv 2) pe_int (fun _ _ => rfl)) pa_nil))))) pss_nil))))))
      (pss_one (ps_ret (pv 1))))), ?_⟩
    unfold Rep at hv
    obtain ⟨a, vs, rfl, ha, hr2⟩ := hv
    rw [das_map] at hr2
    have hfl := flat_len (d + 1) b hw
    have hcap := fcap_le hd4
    have hcap2 := fcap_le (d := d) (by omega)
    refine q_asgR (ef_nil K) fun F us0 H1 hF e1 h1 r1 => ?_
    refine q_accT (b := b) (g := Stm.da) (f := fun s => [s.da] ++ s.blocks.flatMap fun c => (flat d c).map Stm.da) (l0 := []) (H0 := H) (SI := fun F σ => ∃ x, σ = [some (.ref a), some (.ref F), x]) (ev_var rfl) ha hr2 ⟨F, us0, e1, hF, ⟨_, rfl⟩, h1, r1⟩ ?_ ?_
    · rintro i st v σ' H' hb hv' ⟨F, us, e, hF, ⟨x, rfl⟩, hf, r⟩
      have hmem := List.mem_of_getElem? hb
      have hz : (([] : List Da) ++ (b.take i).flatMap fun s => [s.da] ++ s.blocks.flatMap fun c => (flat d c).map Stm.da).length ≤ 2340 := by
        rw [List.nil_append]
        refine Nat.le_trans (len_take_flat i) ?_
        rw [← flat_blocks, List.length_map]
        omega
      generalize (([] : List Da) ++ (b.take i).flatMap fun s => [s.da] ++ s.blocks.flatMap fun c => (flat d c).map Stm.da) = l0 at hz r ⊢
      have fin : ∀ {H2 : Hp} {us2 : List V} {F : Addr} {l' : List Da}, Ex H H2 → H F = none → H2 F = some (.lst us2) → Reps K H2 us2 l' → (l0 ++ ([st.da] ++ st.blocks.flatMap fun c => (flat d c).map Stm.da)) = l' →
          Acc K H (fun F σ => ∃ x, σ = [some (.ref a), some (.ref F), x]) (l0 ++ ([st.da] ++ st.blocks.flatMap fun c => (flat d c).map Stm.da)) [some (.ref a), some (.ref F), some v] H2 := fun e hF h r el => acc_of e hF ⟨_, rfl⟩ h r el
      refine q_appR hf r (by omega) (ev_var rfl) (ep_R (ev_var rfl) hv') fun H2 us2 x2 hf2 r2 => ?_
      have hv2 := hv'.exs hf x2
      have e2 : Ex H H2 := exs_base hF e x2
      have hwb := blocks_wb hw hmem
      have call : ∀ {c : List Stm} {H3 : Hp} {n : Nat} {F : Addr} {ds : List Da}, c ∈ st.blocks → Rep K H3 v (.t ds) → ds[n]? = some (.t (das c)) → EvP (tCall (spStmts K d) [] E0 (tCons (tOp (rIxT K) (tVar 2) (tC (.int (n : Int)))) tNil)) [some (V.ref a), some (.ref F), some v] H3 (IsLR K ((flat d c).map Stm.da)) := fun {c H3 n F ds} hc r3 hn =>
        ep_LR (ef_callRA (er_cons (ev_ixR (i := n) (ev_var rfl) r3 hn) er_nil) fun vs H7 e7 r7 Q' hQ E' => by
          obtain ⟨u1, rfl, k1⟩ := reps_one r7
          exact ⟨u1, c, rfl, k1, hwb c hc, by omega, hQ⟩)
      refine s_if (et_tag (ev_var rfl) hv2) (fun hB H3 e3 => ?_) (fun hB1 H3 e3 => ?_)
      · obtain ⟨t, x, o, rfl⟩ := tag_whl hB
        have hv3 := hv2.ex e3
        rw [Stm.da] at hv3
        have hl1 := flat_len d x (hwb x List.mem_cons_self)
        refine s_asgR (ef_catR (ep_lst (ev_var rfl) (e3 _ _ hf2) (r2.ex e3)) (call (n := 2) List.mem_cons_self hv3 rfl) (by simp only [List.length_append, List.length_map, List.length_singleton]; omega)) fun F' us' H4 hF' e4 h4 r4 => ?_
        exact fin ((e2.trans e3).trans e4) (fresh_back (e2.trans e3) hF') h4 r4 (by simp [Stm.blocks])
      · refine s_when (et_tag (ev_var rfl) (hv2.ex e3)) (fun hB H4 e4 => ?_) (fun hB2 H4 e4 => ?_)
        · obtain ⟨t, x, y, rfl⟩ := tag_ite hB
          have e34 := e3.trans e4
          have hv4 := hv2.ex e34
          rw [Stm.da] at hv4
          have hl1 := flat_len d x (hwb x List.mem_cons_self)
          have hl2 := flat_len d y (hwb y (List.mem_cons_of_mem _ List.mem_cons_self))
          refine s_asgR (ef_catR (ep_LR (ef_catR (ep_lst (ev_var rfl) (e34 _ _ hf2) (r2.ex e34)) (call (n := 2) List.mem_cons_self hv4 rfl) (by simp only [List.length_append, List.length_map, List.length_singleton]; omega))) (call (n := 3) (List.mem_cons_of_mem _ List.mem_cons_self) hv4 rfl) (by simp only [List.length_append, List.length_map, List.length_singleton]; omega)) fun F' us' H5 hF' e5 h5 r5 => ?_
          exact fin ((e2.trans e34).trans e5) (fresh_back (e2.trans e34) hF') h5 r5 (by simp [Stm.blocks])
        · have e34 := e3.trans e4
          refine fin (e2.trans e34) hF (e34 _ _ hf2) (r2.ex e34) ?_
          cases st <;> first | exact absurd rfl (of_decide_eq_false hB1) | exact absurd rfl (of_decide_eq_false hB2) | simp [Stm.blocks]
    · rintro σ' H' ⟨F, us, e, hF, ⟨x, rfl⟩, hf, r⟩
      refine s_ret (ev_var rfl) fun H3 e3 => q F us H3 hF (e.trans e3) (e3 _ _ hf) ?_
      rw [flat_blocks]
      simpa using r.ex e3
theorem sc_law_callees : FnScope ["p", "s"] ["p"] (defScope (topS 31)) := ⟨rfl, rfl, rfl, by decide +kernel, rfl, by decide +kernel, by decide +kernel⟩
theorem ok_law_callees {f : Addr} {fd : FuncData} (F : FnP K "_law_callees" "_law_callees" (topS 31) f fd) (T : Bt mg) (h_law_statements : Has P w K mg base "_law_statements" ["body"] 4 (spStmts K 4)) : FnOk P w K mg base CX0 5 f fd ["p"] (spCalls K) := by
  refine F.ok sc_law_callees (fun vs H Q E h => ?_) (fun cdv A outer s H vs Q E hr h => ?_)
  · obtain ⟨v, p, rfl, _⟩ := h
    rfl
  · obtain ⟨v, p, rfl, hv, hw, q⟩ := h
    refine ⟨_, PSs.nox
      (pss_one (ps_ret (pe_lc (own := [("s", 1)])  rfl sc_law_callees.nd  (pi_listK K rfl (pe_callH h_law_statements (hr.mono (by decide)) (by rfl) (pa_cons (pe_ix (ix_tupK K rfl) (pv 0) pe_int (fun _ _ => rfl)) pa_nil))) (blkOk_by (own := [("s", 1)]) (N := ["p", "s"]) (sc := defScope (topS 31)) (by decide +kernel)) (fun _ _ _ _ _ => (pg_name (i := 1) sc_law_callees.nd rfl (Or.inl rfl))) (fun _ _ _ _ _ => (pts_one (pt_cmpR op_eq (pe_ix (ix_tupK K rfl) (pv 1) pe_int (fun _ _ => rfl)) pe_str (nomark _)))) (fun _ _ _ _ _ => (pe_ix (ix_tupK K rfl) (pv 1) pe_int (fun _ _ => rfl)))))), ?_⟩
    have hl := flat_len 4 p.body hw
    rw [fcap4] at hl
    rw [prc_da] at hv
    refine s_retR (ds := (((flat 4 p.body).filter Stm.isCall).map fun s => .s s.cn)) (ef_lcN (b := flat 4 p.body) (g0 := Stm.da) (e := fun s => .s s.cn) (f := Stm.isCall) (ep_LR ?_) (by omega) fun i st v' Hb hb eb rb => ⟨_, tgt_name, rfl, ?_, fun hc => ?_⟩) fun r us H1 hn e1 h1 r1 => q r us H1 hn e1 h1 ?_
    · exact ef_callRA (er_cons (ev_ixR (i := 8) (ev_var rfl) hv rfl) er_nil) fun vs H1 e1 r Q' hQ E' => by
        obtain ⟨v8, rfl, r8⟩ := reps_one r
        exact ⟨v8, p.body, rfl, r8, hw, Nat.le_refl _, hQ⟩
    · rw [← tag_isCall]
      exact et_tag (ev_var rfl) rb
    · cases st with
      | call c as ts pp =>
        rw [Stm.da] at rb
        exact ev_ixR (i := 1) (ev_var rfl) rb rfl
      | _ => cases hc
    · unfold Prc.calls
      rw [List.map_map]
      exact r1
theorem sc_law_changed_by : FnScope ["p", "found", "s", "x", "e"] ["p"] (defScope (topS 32)) := ⟨rfl, rfl, rfl, by decide +kernel, rfl, by decide +kernel, by decide +kernel⟩
theorem ok_law_changed_by {f : Addr} {fd : FuncData} (F : FnP K "_law_changed_by" "_law_changed_by" (topS 32) f fd) (T : Bt mg) (h_law_statements : Has P w K mg base "_law_statements" ["body"] 4 (spStmts K 4)) : FnOk P w K mg base CX0 5 f fd ["p"] (fun vs H Q _ => ∃ (v : V) (p : Prc), vs = [v] ∧ Rep K H v p.da ∧ Wb 4 p.body ∧ RetLR K (((flat 4 p.body).flatMap chg).map Da.s) H Q) := by
  refine F.ok sc_law_changed_by (fun vs H Q E h => ?_) (fun cdv A outer s H vs Q E hr h => ?_)
  · obtain ⟨v, p, rfl, _⟩ := h
    rfl
  · obtain ⟨v, p, rfl, hv, hw, q⟩ := h
    refine ⟨_, PSs.nox
      (pss_cons (ps_set (i := 1) sc_law_changed_by.nd rfl (Or.inl rfl) (pe_lst pa_nil))
      (pss_cons (ps_for PassesOwn.never rfl (pi_listK K rfl (pe_callH h_law_statements (hr.mono (by decide)) (by rfl) (pa_cons (pe_ix (ix_tupK K rfl) (pv 0) pe_int (fun _ _ => rfl)) pa_nil))) (pg_name (i := 2) sc_law_changed_by.nd rfl (Or.inl rfl)) (pss_one (ps_if (pt_cmpR op_eq (pe_ix (ix_tupK K rfl) (pv 2) pe_int (fun _ _ => rfl)) pe_str (nomark _)) (pss_one (ps_set (i := 1) sc_law_changed_by.nd rfl (Or.inl rfl) (pe_op op_cat (pv 1) (pe_lc (own := [("x", 3), ("e", 4)])  rfl sc_law_changed_by.nd  (pi_tupK K rfl (pe_ix (ix_tupK K rfl) (pv 2) pe_int (fun _ _ => rfl))) (blkOk_by (own := [("x", 3), ("e", 4)]) (N := ["p", "found", "s", "x", "e"]) (sc := defScope (topS 32)) (by decide +kernel)) (fun _ _ _ _ _ => (pg_tupK K rfl (n := 2) rfl (pgs_cons (pg_name (i := 3) sc_law_changed_by.nd rfl (Or.inl rfl)) (pgs_cons (pg_name (i := 4) sc_law_changed_by.nd rfl (Or.inl rfl)) pgs_nil)))) (fun _ _ _ _ _ => pts_nil) (fun _ _ _ _ _ => (pv 3)))))) (pss_one (ps_if (pt_cmpR op_eq (pe_ix (ix_tupK K rfl) (pv 2) pe_int (fun _ _ => rfl)) pe_str (nomark _)) (pss_one (ps_set (i := 1) sc_law_changed_by.nd rfl (Or.inl rfl) (pe_op op_cat (pv 1) (pe_lst (pa_cons (pe_ix (ix_tupK K rfl) (pv 2) pe_int (fun _ _ => rfl)) (pa_cons (pe_ix (ix_tupK K rfl) (pv 2) pe_int (fun _ _ => rfl)) pa_nil)))))) (pss_one (ps_if (pt_cmpR op_eq (pe_ix (ix_tupK K rfl) (pv 2) pe_int (fun _ _ => rfl)) pe_str (nomark _)) (pss_one (ps_expr (pe_bm PySem.F.plainAttrs_list PySem.F.slot_list_append PySem.F.type_list_append mt_append (pv 1) (pa_cons (pe_ix (ix_tupK K rfl) (pv 2) pe_int (fun _ _ => rfl)) pa_nil)))) (pss_one (ps_if (pt_cmpR op_eq (pe_ix (ix_tupK K rfl) (pv 2) pe_int (fun _ _ => rfl)) pe_str (nomark _)) (pss_one (ps_set (i := 1) sc_law_changed_by.nd rfl (Or.inl rfl) (pe_op op_cat (pv 1) (pe_callTy (call_list_ofK K rfl) (by rfl) T.m_list (by decide +kernel) (pa_cons (pe_ix (ix_tupK K rfl) (pv 2) pe_int (fun _ _ => rfl)) pa_nil))))) pss_nil)))))))))
      (pss_one (ps_ret (pv 1))))), ?_⟩
    have hl := flat_len 4 p.body hw
    rw [fcap4] at hl
    rw [prc_da] at hv
    refine q_asgR (ef_nil K) fun F us0 H1 hF e1 h1 r1 => ?_
    refine q_seq (s_accL (b := flat 4 p.body) (g := Stm.da) (f := fun s => (chg s).map Da.s) (l0 := []) (H0 := H) (SI := fun F σ => ∃ x y z, σ = [some v, some (.ref F), x, y, z]) (ef_callRA (er_cons (ev_ixR (i := 8) (ev_var rfl) (hv.ex e1) rfl) er_nil) fun vs H1 e1 r Q' hQ E' => by
        obtain ⟨v8, rfl, r8⟩ := reps_one r
        exact ⟨v8, p.body, rfl, r8, hw, Nat.le_refl _, hQ⟩) ⟨F, us0, e1, hF, ⟨_, _, _, rfl⟩, h1, r1⟩ ?_ ?_)
    · rintro H0' i st v' σ' H' e0 _ hb hv0 ⟨F, us, e, hF, ⟨x, y, z, rfl⟩, hf, r⟩
      have hv' := hv0.ex e
      have hm := List.mem_of_getElem? hb
      have hz : (([] : List Da) ++ ((flat 4 p.body).take i).flatMap fun s => (chg s).map Da.s).length ≤ 4680 := by
        rw [List.nil_append]
        refine Nat.le_trans (flatMap_len _ 2 _ fun s hs => ?_) (Nat.mul_le_mul_right 2 (Nat.le_trans (List.length_take_le' ..) hl))
        rw [List.length_map]
        exact chg_len hw (List.mem_of_mem_take hs)
      generalize (([] : List Da) ++ ((flat 4 p.body).take i).flatMap fun s => (chg s).map Da.s) = l0 at hz r ⊢
      have fin : ∀ {F : Addr} {H2 : Hp} {us2 : List V} {x y : Option V} {ds : List Da}, Ex H0' H2 → H0' F = none → H2 F = some (.lst us2) → Reps K H2 us2 (l0 ++ ds) → ds = (chg st).map Da.s → Acc K H0' (fun F σ => ∃ x y z, σ = [some v, some (.ref F), x, y, z]) (l0 ++ (chg st).map Da.s) [some v, some (.ref F), some v', x, y] H2 := fun x2 hF h2 r2 ed => ⟨_, _, x2, hF, ⟨_, _, _, rfl⟩, h2, ed ▸ r2⟩
      refine s_if (et_tag (ev_var rfl) hv') (fun hB H2 e2 => ?_) (fun hB1 H2 e2 => ?_)
      · obtain ⟨x1, ee, rfl⟩ := tag_set hB
        have hv2 := hv'.ex e2
        rw [Stm.da] at hv2
        refine s_asgR (ef_catR (ep_lst (ev_var rfl) (e2 _ _ hf) (r.ex e2)) (ep_LR (ef_lcNT (b := [(x1, ee)]) (f := fun _ => true) (e := fun q => .s q.1) (g0 := fun q => .t [.s q.1, q.2]) (ev_ixR (i := 1) (ev_var rfl) hv2 rfl) (by simp) fun i q v2 Hb hb eb rb => ?_)) (by simp; omega)) fun F' us3 H3 hF' e3 h3 r3 => fin ((e.trans e2).trans e3) (fresh_back (e.trans e2) hF') h3 r3 rfl
        obtain ⟨t, w1, w2, rfl, ht, k1, k2⟩ := rep_two rb
        exact ⟨_, tgt_pair ht, rfl, et_yes, fun _ => ep_R (ev_var rfl) k1⟩
      · refine s_if (et_tag (ev_var rfl) (hv'.ex e2)) (fun hB H3 e3 => ?_) (fun hB2 H3 e3 => ?_)
        · obtain ⟨x1, a1, rfl⟩ := tag_pop hB
          have e23 := e2.trans e3
          have hv2 := hv'.ex e23
          rw [Stm.da] at hv2
          refine s_asgR (ef_catR (lb := [.s x1, .s a1]) (ep_lst (ev_var rfl) (e23 _ _ hf) (r.ex e23)) (ep_LR (er_lst (er_cons (ev_ixR (i := 1) (ev_var rfl) hv2 rfl) (er_cons (ev_ixR (i := 2) (ev_var rfl) hv2 rfl) er_nil)) (by simp))) (by simp; omega)) fun F' us4 H4 hF' e4 h4 r4 => fin ((e.trans e23).trans e4) (fresh_back (e.trans e23) hF') h4 r4 rfl
        · refine s_if (et_tag (ev_var rfl) (hv'.ex (e2.trans e3))) (fun hB H4 e4 => ?_) (fun hB3 H4 e4 => ?_)
          · obtain ⟨ee, a1, rfl⟩ := tag_push hB
            have e24 := (e2.trans e3).trans e4
            have hv2 := hv'.ex e24
            rw [Stm.da] at hv2
            refine s_appR (d := .s a1) (e24 _ _ hf) (r.ex e24) (by omega) (ev_var rfl) (ev_ixR (i := 2) (ev_var rfl) hv2 rfl) fun H5 us5 x5 h5 r5 => fin (exs_base hF (e.trans e24) x5) hF h5 r5 rfl
          · have e24 := (e2.trans e3).trans e4
            refine s_when (et_tag (ev_var rfl) (hv'.ex e24)) (fun hB H5 e5 => ?_) (fun hB4 H5 e5 => ?_)
            · obtain ⟨c1, as1, ts1, p1, rfl⟩ := tag_call hB
              have e25 := e24.trans e5
              have hv2 := hv'.ex e25
              rw [Stm.da] at hv2
              have hts := (flat_wb hw hm).2
              refine s_asgR (ef_catR (lb := ts1.map Da.s) (ep_lst (ev_var rfl) (e25 _ _ hf) (r.ex e25)) (ep_LR (ef_lstT (ev_ixR (i := 3) (ev_var rfl) hv2 rfl))) (by rw [List.length_map]; omega)) fun F' us6 H6 hF' e6 h6 r6 => fin ((e.trans e25).trans e6) (fresh_back (e.trans e25) hF') h6 r6 rfl
            · have e25 := e24.trans e5
              refine fin (ds := []) (e.trans e25) hF (e25 _ _ hf) (by simpa using r.ex e25) ?_
              rw [chg_none hB1 hB2 hB3 hB4]
              rfl
    · rintro σ' H' ⟨F, us, e, hF, ⟨x, y, z, rfl⟩, hf, r⟩
      refine s_ret (ev_var rfl) fun H3 e3 => q F us H3 hF (e.trans e3) (e3 _ _ hf) ?_
      rw [List.map_flatMap]
      exact r.ex e3
theorem sc_law_nests : FnScope ["body", "nest", "found", "s", "inner"] ["body", "nest"] (defScope (topS 35)) := ⟨rfl, rfl, rfl, by decide +kernel, rfl, by decide +kernel, by decide +kernel⟩
theorem ok_law_nests {d : Nat} {f : Addr} {fd : FuncData} (F : FnP K "_law_nests" "_law_nests" (topS 35) f fd) (T : Bt mg) (h_law_nests : Has P w K mg base "_law_nests" ["body", "nest"] (0 + d) (spLNst K d)) : FnOk P w K mg base CX0 (0 + d + 1) f fd ["body", "nest"] (spLNst K (d + 1)) := by
  refine F.ok sc_law_nests (fun vs H Q E h => ?_) (fun cdv A outer s H vs Q E hr h => ?_)
  · obtain ⟨v1, v2, b, nest, rfl, _⟩ := h
    rfl
  · obtain ⟨v1, v2, b, nest, rfl, hv1, hv2, hd4, hw, q⟩ := h
    refine ⟨_, PSs.nox
      (pss_cons (ps_set (i := 2) sc_law_nests.nd rfl (Or.inl rfl) (pe_lst pa_nil))
      (pss_cons (ps_for PassesOwn.never rfl (pi_tupK K rfl (pv 0)) (pg_name (i := 3) sc_law_nests.nd rfl (Or.inl rfl)) (pss_one (ps_if (pt_cmpR op_eq (pe_ix (ix_tupK K rfl) (pv 3) pe_int (fun _ _ => rfl)) pe_str (nomark _)) (pss_cons (ps_set (i := 4) sc_law_nests.nd rfl (Or.inl rfl) (pe_op (op_catAK K rfl) (pv 1) (pe_tup (pa_cons (pe_ix (ix_tupK K rfl) (pv 3) pe_int (fun _ _ => rfl)) pa_nil))))
      (pss_one (ps_set (i := 2) sc_law_nests.nd rfl (Or.inl rfl) (pe_op op_cat (pe_op op_cat (pv 2) (pe_lst (pa_cons (pv 4) pa_nil))) (pe_callH h_law_nests (hr.mono (by omega)) (by rfl) (pa_cons (pe_ix (ix_tupK K rfl) (pv 3) pe_int (fun _ _ => rfl)) (pa_cons (pv 4) pa_nil))))))) (pss_one (ps_if (pt_cmpR op_eq (pe_ix (ix_tupK K rfl) (pv 3) pe_int (fun _ _ => rfl)) pe_str (nomark _)) (pss_one (ps_set (i := 2) sc_law_nests.nd rfl (Or.inl rfl) (pe_op op_cat (pe_op op_cat (pv 2) (pe_callH h_law_nests (hr.mono (by omega)) (by rfl) (pa_cons (pe_ix (ix_tupK K rfl) (pv 3) pe_int (fun _ _ => rfl)) (pa_cons (pv 1) pa_nil)))) (pe_callH h_law_nests (hr.mono (by omega)) (by rfl) (pa_cons (pe_ix (ix_tupK K rfl) (pv 3) pe_int (fun _ _ => rfl)) (pa_cons (pv 1) pa_nil)))))) (pss_one (ps_if (pt_cmpR op_eq (pe_ix (ix_tupK K rfl) (pv 3) pe_int (fun _ _ => rfl)) pe_str (nomark _)) (pss_one (ps_expr (pe_bm PySem.F.plainAttrs_list PySem.F.slot_list_append PySem.F.type_list_append mt_append (pv 2) (pa_cons (pv 1) pa_nil)))) (pss_one (ps_if (pt_cmpR op_eq (pe_ix (ix_tupK K rfl) (pv 3) pe_int (fun _ _ => rfl)) pe_str (nomark _)) (pss_one (ps_set (i := 2) sc_law_nests.nd rfl (Or.inl rfl) (pe_op op_cat (pv 2) (pe_lst (pa_cons (pv 1) (pa_cons (pv 1) pa_nil)))))) pss_nil)))))))))
      (pss_one (ps_ret (pv 2))))), ?_⟩
    unfold Rep at hv1
    obtain ⟨a, vs, rfl, ha, hr2⟩ := hv1
    rw [das_map] at hr2
    have hcap := nst_len (d + 1) b nest hw
    have hc4 := fcap_le (d := d + 1) (by omega)
    have hc5 := fcap_le (d := d) (by omega)
    refine q_asgR (ef_nil K) fun F us0 H1 hF e1 h1 r1 => ?_
    refine q_accT (b := b) (g := Stm.da) (f := fun s => (nst (d + 1) [s] nest).map di) (l0 := []) (H0 := H) (SI := fun F σ => ∃ x y, σ = [some (.ref a), some v2, some (.ref F), x, y]) (ev_var rfl) ha hr2 ⟨F, us0, e1, hF, ⟨_, _, rfl⟩, h1, r1⟩ ?_ ?_
    · rintro i st v σ' H' hst hv' ⟨F, us, e, hF, ⟨x, y, rfl⟩, hf, r⟩
      have hm := List.mem_of_getElem? hst
      have h2 := hw.2 st hm
      have hz : (([] : List Da) ++ (b.take i).flatMap fun s => (nst (d + 1) [s] nest).map di).length ≤ 4680 := by
        rw [List.nil_append]
        refine Nat.le_trans (len_take_flat i) ?_
        have : (b.flatMap fun s => (nst (d + 1) [s] nest).map di).length = (nst (d + 1) b nest).length := by
          rw [← List.map_flatMap, List.length_map, nst]
          congr 2
          funext s
          rw [nst, List.flatMap_cons, List.flatMap_nil, List.append_nil]
        omega
      generalize (([] : List Da) ++ (b.take i).flatMap fun s => (nst (d + 1) [s] nest).map di) = l0 at hz r ⊢
      have fin : ∀ {H2 : Hp} {us2 : List V} {F : Addr} {y : Option V} {ds : List (List Int)}, Ex H H2 → H F = none → H2 F = some (.lst us2) → Reps K H2 us2 (l0 ++ ds.map di) → nst (d + 1) [st] nest = ds →
          Acc K H (fun F σ => ∃ x y, σ = [some (.ref a), some v2, some (.ref F), x, y]) (l0 ++ (nst (d + 1) [st] nest).map di) [some (.ref a), some v2, some (.ref F), some v, y] H2 := fun e hF h r el => acc_of e hF ⟨_, _, rfl⟩ h r (by rw [el])
      have call : ∀ {c : List Stm} {H3 : Hp} {n j : Nat} {σ3 : L2.St} {ds : List Da} {nn : List Int} {vn : V}, Nb d c → nn.length + d ≤ 4 → σ3[3]? = some (some v) → σ3[j]? = some (some vn) → Rep K H3 v (.t ds) → ds[n]? = some (.t (das c)) → Rep K H3 vn (di nn) → EvP (tCall (spLNst K d) [] E0 (tCons (tOp (rIxT K) (tVar 3) (tC (.int (n : Int)))) (tCons (tVar j) tNil))) σ3 H3 (IsLR K ((nst d c nn).map di)) := fun {c H3 n j σ3 ds nn vn} hc hn hv hj r3 hd3 rn =>
        ep_LR (ef_callRA (er_cons (ev_ixR (i := n) (ev_var hv) r3 hd3) (er_cons (ep_R (ev_var hj) rn) er_nil)) fun vs H7 e7 r7 Q' hQ E' => by
          obtain ⟨u1, u2, rfl, k1, k2⟩ := reps_two r7
          exact ⟨u1, u2, c, nn, rfl, k1, k2, hn, hc, hQ⟩)
      refine s_if (et_tag (ev_var rfl) (hv'.ex (Ex.refl _))) (fun hB H3 e3 => ?_) (fun hB1 H3 e3 => ?_)
      · obtain ⟨t, x, o, rfl⟩ := tag_whl hB
        cases o with
        | none => exact absurd rfl h2.1
        | some k =>
          have hv3 := hv'.ex e3
          rw [Stm.da] at hv3
          refine q_asgP (P := fun v H => Rep K H v (di (nest ++ [k]))) ?_ fun vi H5 e5 ri => ?_
          · unfold di
            rw [← di_app]
            refine er_catT (ep_R (ev_var rfl) (hv2.ex (e.trans e3))) (er_tup (er_cons (ev_ixR (i := 3) (ev_var rfl) hv3 rfl) er_nil) (by simp)) ?_
            simp only [List.length_map, List.length_singleton]
            omega
          · have e35 := e3.trans e5
            have hl1 := nst_len d x (nest ++ [k]) h2.2
            refine s_asgR (ef_catR (ep_LR (ef_catR (lb := [di (nest ++ [k])]) (ep_lst (ev_var rfl) (e35 _ _ hf) (r.ex e35)) (ep_LR (er_lst (er_cons (ep_R (ev_var rfl) ri) er_nil) (by simp))) (by simp; omega))) (call (n := 2) (nn := nest ++ [k]) h2.2 (by rw [List.length_append, List.length_singleton]; omega) rfl rfl (hv3.ex e5) rfl ri) (by simp only [List.length_append, List.length_map, List.length_singleton]; omega)) fun F' us' H6 hF' e6 h6 r6 => ?_
            refine fin (ds := (nest ++ [k]) :: nst d x (nest ++ [k])) ((e.trans e35).trans e6) (fresh_back (e.trans e35) hF') h6 ?_ (by rw [nst, List.flatMap_cons, List.flatMap_nil, List.append_nil])
            rw [List.append_assoc] at r6
            exact r6
      · refine s_if (et_tag (ev_var rfl) (hv'.ex e3)) (fun hB H4 e4 => ?_) (fun hB2 H4 e4 => ?_)
        · obtain ⟨t, x, y, rfl⟩ := tag_ite hB
          have e34 := e3.trans e4
          have hv4 := hv'.ex e34
          rw [Stm.da] at hv4
          have hn4 := hv2.ex (e.trans e34)
          have hl1 := nst_len d x nest h2.1
          have hl2 := nst_len d y nest h2.2
          refine s_asgR (ef_catR (ep_LR (ef_catR (ep_lst (ev_var rfl) (e34 _ _ hf) (r.ex e34)) (call (n := 2) (nn := nest) h2.1 (by omega) rfl rfl hv4 rfl hn4) (by simp only [List.length_append, List.length_map, List.length_singleton]; omega))) (call (n := 3) (nn := nest) h2.2 (by omega) rfl rfl hv4 rfl hn4) (by simp only [List.length_append, List.length_map, List.length_singleton]; omega)) fun F' us' H5 hF' e5 h5 r5 => ?_
          refine fin (ds := nst d x nest ++ nst d y nest) ((e.trans e34).trans e5) (fresh_back (e.trans e34) hF') h5 ?_ (by rw [nst, List.flatMap_cons, List.flatMap_nil, List.append_nil])
          rw [List.map_append, ← List.append_assoc]
          exact r5
        · refine s_if (et_tag (ev_var rfl) (hv'.ex (e3.trans e4))) (fun hB H5 e5 => ?_) (fun hB3 H5 e5 => ?_)
          · obtain ⟨o, rfl⟩ := tag_pause hB
            have e35 := (e3.trans e4).trans e5
            refine s_appR (d := di nest) (e35 _ _ hf) (r.ex e35) (by omega) (ev_var rfl) (ep_R (ev_var rfl) (hv2.ex (e.trans e35))) fun H6 us6 x6 h6 r6 => ?_
            exact fin (ds := [nest]) (exs_base hF (e.trans e35) x6) hF h6 r6 (by rw [nst, List.flatMap_cons, List.flatMap_nil, List.append_nil])
          · refine s_when (et_tag (ev_var rfl) (hv'.ex ((e3.trans e4).trans e5))) (fun hB H6 e6 => ?_) (fun hB4 H6 e6 => ?_)
            · obtain ⟨c, as, ts, o, rfl⟩ := tag_call hB
              have e36 := ((e3.trans e4).trans e5).trans e6
              have hn6 := hv2.ex (e.trans e36)
              refine s_asgR (ef_catR (lb := [di nest, di nest]) (ep_lst (ev_var rfl) (e36 _ _ hf) (r.ex e36)) (ep_LR (er_lst (er_cons (ep_R (ev_var rfl) hn6) (er_cons (ep_R (ev_var rfl) hn6) er_nil)) (by simp))) (by simp; omega)) fun F' us' H7 hF' e7 h7 r7 => ?_
              exact fin (ds := [nest, nest]) ((e.trans e36).trans e7) (fresh_back (e.trans e36) hF') h7 r7 (by rw [nst, List.flatMap_cons, List.flatMap_nil, List.append_nil])
            · have e36 := ((e3.trans e4).trans e5).trans e6
              refine fin (ds := []) (e.trans e36) hF (e36 _ _ hf) (by simpa using r.ex e36) ?_
              rw [nst, List.flatMap_cons, List.flatMap_nil, List.append_nil]
              cases st <;> first | rfl | exact absurd rfl (of_decide_eq_false hB1) | exact absurd rfl (of_decide_eq_false hB2) | exact absurd rfl (of_decide_eq_false hB3) | exact absurd rfl (of_decide_eq_false hB4)
    · rintro σ' H' ⟨F, us, e, hF, ⟨x, y, rfl⟩, hf, r⟩
      refine s_ret (ev_var rfl) fun H3 e3 => q F us H3 hF (e.trans e3) (e3 _ _ hf) ?_
      have : (nst (d + 1) b nest).map di = b.flatMap fun s => (nst (d + 1) [s] nest).map di := by
        rw [← List.map_flatMap, nst]
        congr 2
        funext s
        rw [nst, List.flatMap_cons, List.flatMap_nil, List.append_nil]
      rw [this]
      exact r.ex e3
end
end K88

set_option maxHeartbeats 4000000
namespace K88
open PySem L2 Evl
section
variable {P : Program} {w : World} {K : PySem.W.Frag} {mg : Str → Option Value} {base : Heap}
theorem sc_law_mark : FnScope ["body", "point", "found", "s", "inner", "one", "two"] ["body", "point"] (defScope (topS 42)) := ⟨rfl, rfl, rfl, by decide +kernel, rfl, by decide +kernel, by decide +kernel⟩
theorem ok_law_mark {d : Nat} {f : Addr} {fd : FuncData} (F : FnP K "_law_mark" "_law_mark" (topS 42) f fd) (T : Bt mg) (h_law_mark : Has P w K mg base "_law_mark" ["body", "point"] (0 + d) (spNum K d)) : FnOk P w K mg base CX0 (0 + d + 1) f fd ["body", "point"] (spNum K (d + 1)) := by
  refine F.ok sc_law_mark (fun vs H Q E h => ?_) (fun cdv A outer s H vs Q E hr h => ?_)
  · obtain ⟨v, b, n, rfl, _⟩ := h
    rfl
  · obtain ⟨v, b, n, rfl, hv, hw, hd4, q⟩ := h
    refine ⟨_, PSs.nox
      (pss_cons (ps_set (i := 2) sc_law_mark.nd rfl (Or.inl rfl) (pe_tup pa_nil))
      (pss_cons (ps_for PassesOwn.never rfl (pi_tupK K rfl (pv 0)) (pg_name (i := 3) sc_law_mark.nd rfl (Or.inl rfl)) (pss_one (ps_if (pt_cmpR op_eq (pe_ix (ix_tupK K rfl) (pv 3) pe_int (fun _ _ => rfl)) pe_str (nomark _)) (pss_cons (ps_set (i := 4) sc_law_mark.nd rfl (Or.inl rfl) (pe_callH h_law_mark (hr.mono (by omega)) (by rfl) (pa_cons (pe_ix (ix_tupK K rfl) (pv 3) pe_int (fun _ _ => rfl)) (pa_cons (pe_op op_add (pv 1) pe_int) pa_nil))))
      (pss_cons (ps_set (i := 2) sc_law_mark.nd rfl (Or.inl rfl) (pe_op (op_catAK K rfl) (pv 2) (pe_tup (pa_cons (pe_tup (pa_cons pe_str (pa_cons (pe_ix (ix_tupK K rfl) (pv 3) pe_int (fun _ _ => rfl)) (pa_cons (pe_ix (ix_tupK K rfl) (pv 4) pe_int (fun _ _ => rfl)) (pa_cons (pv 1) pa_nil))))) pa_nil))))
      (pss_one (ps_set (i := 1) sc_law_mark.nd rfl (Or.inl rfl) (pe_ix (ix_tupK K rfl) (pv 4) pe_int (fun _ _ => rfl)))))) (pss_one (ps_if (pt_cmpR op_eq (pe_ix (ix_tupK K rfl) (pv 3) pe_int (fun _ _ => rfl)) pe_str (nomark _)) (pss_cons (ps_set (i := 5) sc_law_mark.nd rfl (Or.inl rfl) (pe_callH h_law_mark (hr.mono (by omega)) (by rfl) (pa_cons (pe_ix (ix_tupK K rfl) (pv 3) pe_int (fun _ _ => rfl)) (pa_cons (pv 1) pa_nil))))
      (pss_cons (ps_set (i := 6) sc_law_mark.nd rfl (Or.inl rfl) (pe_callH h_law_mark (hr.mono (by omega)) (by rfl) (pa_cons (pe_ix (ix_tupK K rfl) (pv 3) pe_int (fun _ _ => rfl)) (pa_cons (pe_ix (ix_tupK K rfl) (pv 5) pe_int (fun _ _ => rfl)) pa_nil))))
      (pss_cons (ps_set (i := 2) sc_law_mark.nd rfl (Or.inl rfl) (pe_op (op_catAK K rfl) (pv 2) (pe_tup (pa_cons (pe_tup (pa_cons pe_str (pa_cons (pe_ix (ix_tupK K rfl) (pv 3) pe_int (fun _ _ => rfl)) (pa_cons (pe_ix (ix_tupK K rfl) (pv 5) pe_int (fun _ _ => rfl)) (pa_cons (pe_ix (ix_tupK K rfl) (pv 6) pe_int (fun _ _ => rfl)) pa_nil))))) pa_nil))))
      (pss_one (ps_set (i := 1) sc_law_mark.nd rfl (Or.inl rfl) (pe_ix (ix_tupK K rfl) (pv 6) pe_int (fun _ _ => rfl))))))) (pss_one (ps_if (pt_cmpR op_eq (pe_ix (ix_tupK K rfl) (pv 3) pe_int (fun _ _ => rfl)) pe_str (nomark _)) (pss_cons (ps_set (i := 2) sc_law_mark.nd rfl (Or.inl rfl) (pe_op (op_catAK K rfl) (pv 2) (pe_tup (pa_cons (pe_tup (pa_cons pe_str (pa_cons (pv 1) pa_nil))) pa_nil))))
      (pss_one (ps_set (i := 1) sc_law_mark.nd rfl (Or.inl rfl) (pe_op op_add (pv 1) pe_int)))) (pss_one (ps_if (pt_cmpR op_eq (pe_ix (ix_tupK K rfl) (pv 3) pe_int (fun _ _ => rfl)) pe_str (nomark _)) (pss_cons (ps_set (i := 2) sc_law_mark.nd rfl (Or.inl rfl) (pe_op (op_catAK K rfl) (pv 2) (pe_tup (pa_cons (pe_op (op_catAK K rfl) (pv 3) (pe_tup (pa_cons (pv 1) pa_nil))) pa_nil))))
      (pss_one (ps_set (i := 1) sc_law_mark.nd rfl (Or.inl rfl) (pe_op op_add (pv 1) pe_int)))) (pss_one (ps_set (i := 2) sc_law_mark.nd rfl (Or.inl rfl) (pe_op (op_catAK K rfl) (pv 2) (pe_tup (pa_cons (pv 3) pa_nil))))))))))))))
      (pss_one (ps_ret (pe_tup (pa_cons (pv 2) (pa_cons (pv 1) pa_nil))))))), ?_⟩
    unfold Rep at hv
    obtain ⟨a, vs, rfl, ha, hr2⟩ := hv
    rw [das_map] at hr2
    have hvl : vs.length = b.length := by rw [hr2.len, List.length_map]
    refine q_asgP (P := fun v H => Rep K H v (.t [])) (er_tup er_nil (by simp [pts])) fun vf H1 e1 r1 => ?_
    refine q_seq (s_forT (xs := vs) (ev_var rfl) (st_of (e1 _ _ ha)) (fun i σ' H' => ∃ vf x3 x4 x5 x6, σ' = [some (.ref a), some (.int ((b.take i).foldl (markF (mark d)) ([], n)).2), some vf, x3, x4, x5, x6] ∧ Ex H H' ∧ Rep K H' vf (.t (das ((b.take i).foldl (markF (mark d)) ([], n)).1)))
      (fun H3 e3 => ⟨vf, _, _, _, _, rfl, e1.trans e3, by simpa [das] using r1.ex e3⟩) (fun i σ' H' _ p => ?_) (fun i v σ' H' hvi p => ?_) (fun σ' H' p => ?_))
    · obtain ⟨_, _, _, _, _, _, e, _⟩ := p
      exact st_of (e _ _ ha)
    · obtain ⟨vf, x3, x4, x5, x6, rfl, e, r⟩ := p
      obtain ⟨dd, hd, rd⟩ := hr2.get hvi
      rw [List.getElem?_map, Option.map_eq_some_iff] at hd
      obtain ⟨st, hst, rfl⟩ := hd
      have hm := List.mem_of_getElem? hst
      have hi4 : i < 4 := by
        have := (List.getElem?_eq_some_iff.mp hst).1
        have := hw.1
        omega
      have step : (b.take (i + 1)).foldl (markF (mark d)) ([], n) = markF (mark d) ((b.take i).foldl (markF (mark d)) ([], n)) st := by
        rw [take_succ_of hst, List.foldl_append]
        rfl
      have hlen : (das ((b.take i).foldl (markF (mark d)) ([], n)).1).length ≤ 4 := by
        rw [das_len, markF_len]
        simp only [List.length_nil, List.length_take]
        omega
      have fin : ∀ {H3 : Hp} {vf3 : V} {x3 x4 x5 x6 : Option V} {k : Int} {s' : Stm}, Ex H H3 → Rep K H3 vf3 (.t (das ((b.take i).foldl (markF (mark d)) ([], n)).1 ++ [s'.da])) → (s', k) = stepS (mark d) st ((b.take i).foldl (markF (mark d)) ([], n)).2 →
          ∃ vf x3' x4' x5' x6', [some (V.ref a), some (.int k), some vf3, x3, x4, x5, x6] = [some (V.ref a), some (V.int ((b.take (i + 1)).foldl (markF (mark d)) ([], n)).2), some vf, x3', x4', x5', x6'] ∧ Ex H H3 ∧ Rep K H3 vf (.t (das ((b.take (i + 1)).foldl (markF (mark d)) ([], n)).1)) := fun e r3 es => by
        rw [step, markF, ← es, das_app]
        exact ⟨_, _, _, _, _, rfl, e, r3⟩
      generalize ((b.take i).foldl (markF (mark d)) ([], n)) = acc at r hlen fin ⊢
      obtain ⟨am, k⟩ := acc
      dsimp only at r hlen fin ⊢
      have hv3 := rd.ex e
      have hs2 := hw.2 st hm
      show tIfS _ _ _ _ [some (V.ref a), some (.int k), some vf, some v, x4, x5, x6] H'
      have call : ∀ {c : List Stm} {H3 : Hp} {j : Nat} {σ3 : L2.St} {ds : List Da} {m : Int} {tn : TE}, Wb d c → σ3[3]? = some (some v) → Rep K H3 v (.t ds) → ds[j]? = some (.t (das c)) → Ev tn σ3 H3 (.int m) → EvP (tCall (spNum K d) [] E0 (tCons (tOp (rIxT K) (tVar 3) (tC (.int (j : Int)))) (tCons tn tNil))) σ3 H3 (fun v H => Rep K H v (.t [.t (das (mark d c m).1), .i (mark d c m).2])) := fun {c H3 j σ3 ds m tn} hc hv3 r3 hd3 hn =>
        ep_callA (er_cons (ev_ixR (i := j) (ev_var hv3) r3 hd3) (er_cons (ep_Ri hn) er_nil)) fun vs H5 e5 r5 Q' hQ E' => by
          obtain ⟨u1, u2, rfl, k1, k2⟩ := reps_two r5
          rw [rep_intv k2]
          exact ⟨u1, c, m, rfl, k1, hc, by omega, hQ⟩
      refine s_if (et_tag (ev_var rfl) hv3) (fun hB H4 e4 => ?_) (fun hB1 H4 e4 => ?_)
      · obtain ⟨t, x, o, rfl⟩ := tag_whl hB
        have hv4 := hv3.ex e4
        rw [Stm.da] at hv4
        refine q_asgP (call (j := 2) hs2.2 rfl hv4 rfl (ev_op (ev_var rfl) ev_c rv_I0)) fun vi H5 e5 ri => ?_
        refine q_asgP (P := fun v H => Rep K H v (.t (das am ++ [(Stm.whl t (mark d x (k + 1)).1 (some k)).da]))) (er_catT (ep_R (ev_var rfl) (r.ex (e4.trans e5))) (er_tup (er_cons (er_tup (er_cons (ep_Rs ev_c) (er_cons (ev_ixR (i := 1) (ev_var rfl) (hv4.ex e5) rfl) (er_cons (ev_ixR (i := 0) (ev_var rfl) ri rfl) (er_cons (ep_Ri (ev_var rfl)) er_nil)))) (by simp [pts])) er_nil) (by simp [pts])) (by simp only [List.length_singleton]; omega)) fun vf' H6 e6 r6 => ?_
        refine s_asg (ev_ixRi (i := 1) (ev_var rfl) (ri.ex e6) rfl) fun H7 e7 => fin (s' := .whl t (mark d x (k + 1)).1 (some k)) (((e.trans e4).trans e5).trans (e6.trans e7)) (r6.ex e7) rfl
      · refine s_if (et_tag (ev_var rfl) (hv3.ex e4)) (fun hB H5 e5 => ?_) (fun hB2 H5 e5 => ?_)
        · obtain ⟨t, x, y, rfl⟩ := tag_ite hB
          have e45 := e4.trans e5
          have hv4 := hv3.ex e45
          rw [Stm.da] at hv4
          refine q_asgP (call (j := 2) hs2.1 rfl hv4 rfl (ev_var rfl)) fun v1 H6 e6 r1 => ?_
          refine q_asgP (call (j := 3) (m := (mark d x k).2) hs2.2 rfl (hv4.ex e6) rfl (ev_ixRi (i := 1) (ev_var rfl) r1 rfl)) fun v2 H7 e7 r2 => ?_
          refine q_asgP (P := fun v H => Rep K H v (.t (das am ++ [(Stm.ite t (mark d x k).1 (mark d y (mark d x k).2).1).da]))) (er_catT (ep_R (ev_var rfl) (r.ex ((e45.trans e6).trans e7))) (er_tup (er_cons (er_tup (er_cons (ep_Rs ev_c) (er_cons (ev_ixR (i := 1) (ev_var rfl) ((hv4.ex e6).ex e7) rfl) (er_cons (ev_ixR (i := 0) (ev_var rfl) (r1.ex e7) rfl) (er_cons (ev_ixR (i := 0) (ev_var rfl) r2 rfl) er_nil)))) (by simp [pts])) er_nil) (by simp [pts])) (by simp only [List.length_singleton]; omega)) fun vf' H8 e8 r8 => ?_
          refine s_asg (ev_ixRi (i := 1) (ev_var rfl) (r2.ex e8) rfl) fun H9 e9 => fin (s' := .ite t (mark d x k).1 (mark d y (mark d x k).2).1) (((e.trans e45).trans e6).trans ((e7.trans e8).trans e9)) (r8.ex e9) rfl
        · refine s_if (et_tag (ev_var rfl) (hv3.ex (e4.trans e5))) (fun hB H6 e6 => ?_) (fun hB3 H6 e6 => ?_)
          · obtain ⟨o, rfl⟩ := tag_pause hB
            have e46 := (e4.trans e5).trans e6
            refine q_asgP (P := fun v H => Rep K H v (.t (das am ++ [(Stm.pause (some k)).da]))) (er_catT (ep_R (ev_var rfl) (r.ex e46)) (er_tup (er_cons (er_tup (er_cons (ep_Rs ev_c) (er_cons (ep_Ri (ev_var rfl)) er_nil)) (by simp [pts])) er_nil) (by simp [pts])) (by simp only [List.length_singleton]; omega)) fun vf' H7 e7 r7 => ?_
            refine s_asg (ev_op (ev_var rfl) ev_c rv_I0) fun H8 e8 => fin (s' := .pause (some k)) ((e.trans e46).trans (e7.trans e8)) (r7.ex e8) rfl
          · refine s_if (et_tag (ev_var rfl) (hv3.ex ((e4.trans e5).trans e6))) (fun hB H7 e7 => ?_) (fun hB4 H7 e7 => ?_)
            · obtain ⟨c, as, ts, o, rfl⟩ := tag_call hB
              have e47 := ((e4.trans e5).trans e6).trans e7
              have hv7 := hv3.ex e47
              rw [Stm.da, hs2.1] at hv7
              refine q_asgP (P := fun v H => Rep K H v (.t (das am ++ [(Stm.call c as ts (some k)).da]))) (er_catT (ep_R (ev_var rfl) (r.ex e47)) (er_tup (er_cons (er_catT (ep_R (ev_var rfl) hv7) (er_tup (er_cons (ep_Ri (ev_var rfl)) er_nil) (by simp [pts])) (by simp [pts])) er_nil) (by simp [pts])) (by simp only [List.length_singleton]; omega)) fun vf' H8 e8 r8 => ?_
              refine s_asg (ev_op (ev_var rfl) ev_c rv_I0) fun H9 e9 => fin (s' := .call c as ts (some k)) ((e.trans e47).trans (e8.trans e9)) (r8.ex e9) rfl
            · have e47 := ((e4.trans e5).trans e6).trans e7
              refine s_asgP (P := fun v H => Rep K H v (.t (das am ++ [st.da]))) (er_catT (ep_R (ev_var rfl) (r.ex e47)) (er_tup (er_cons (ep_R (ev_var rfl) (hv3.ex e47)) er_nil) (by simp [pts])) (by simp only [List.length_singleton]; omega)) fun vf' H8 e8 r8 => ?_
              refine fin (s' := st) (k := k) ((e.trans e47).trans e8) r8 ?_
              cases st <;> first | rfl | exact absurd rfl (of_decide_eq_false hB1) | exact absurd rfl (of_decide_eq_false hB2) | exact absurd rfl (of_decide_eq_false hB3) | exact absurd rfl (of_decide_eq_false hB4)
    · obtain ⟨vf, x3, x4, x5, x6, rfl, e, r⟩ := p
      rw [hvl, List.take_length] at r ⊢
      have em : mark (d + 1) b n = b.foldl (markF (mark d)) ([], n) := rfl
      rw [← em] at r ⊢
      exact s_retP (P := fun v H => Rep K H v (.t [.t (das (mark (d + 1) b n).1), .i (mark (d + 1) b n).2])) (er_tup (er_cons (ep_R (ev_var rfl) r) (er_cons (ep_Ri (ev_var rfl)) er_nil)) (by simp [pts])) (fun v3 H3 e3 r3 => q v3 H3 (e.trans e3) r3)
end
end K88

set_option maxHeartbeats 4000000
namespace K88
open PySem L2 Evl
/-! ### the law's moves -/
abbrev PS2 := List (Str × Str)
def honI (mv : PS2) (p c : Str) (x : (Bool × Str) × Arg) : PS2 := if x.2.isA = true ∧ (c, x.1.2) ∈ mv ∧ (p, x.2.nm) ∉ mv then [(p, x.2.nm)] else []
def honS (C : List Prc) (mv : PS2) (p : Prc) : Stm → PS2
  | .call c as _ _ => ((itemsOf C c).zip as).flatMap (honI mv p.name c)
  | _ => []
def hon (C : List Prc) (mv : PS2) : PS2 := C.flatMap fun p => (flat 4 p.body).flatMap (honS C mv p)
def pdd (q : Str × Str) : Da := td (pd q)
theorem pdd_map (ps : PS2) : ps.map pdd = (ps.map pd).map td := by rw [List.map_map]; rfl
theorem honS_len {C : List Prc} {mv : PS2} {p : Prc} (hP : OkP C p) (hC : OkC C) {s : Stm} (hm : s ∈ flat 4 p.body) : (honS C mv p s).length ≤ 3 := by
  cases s with
  | call c as ts o =>
    obtain ⟨q, hq, _, _, hi, ha⟩ := callee_of hP hC hm
    simp only [honS]
    rw [hi]
    refine Nat.le_trans (flatMap_len _ 1 _ fun x hx => ?_) ?_
    · unfold honI; split <;> simp
    · rw [List.length_zip, (hC.ok q hq).il]
      omega
  | _ => simp [honS]
theorem honP_len {C : List Prc} {mv : PS2} {p : Prc} (hC : OkC C) (hp : p ∈ C) : ((flat 4 p.body).flatMap (honS C mv p)).length ≤ 7020 := by
  have h1 := flatMap_len (honS C mv p) 3 (flat 4 p.body) fun s hs => honS_len (hC.ok p hp) hC hs
  have h2 := flat_len 4 p.body (hC.ok p hp).wb
  rw [fcap4] at h2
  omega
theorem hon_len {C : List Prc} {mv : PS2} (hC : OkC C) : (hon C mv).length ≤ 42120 := by
  have h1 := flatMap_len (fun p => (flat 4 p.body).flatMap (honS C mv p)) 7020 C fun p hp => honP_len hC hp
  have h6 := hC.n6
  unfold hon
  omega
def spHon (K : PySem.W.Frag) : Sp := fun vs H Q _ => ∃ (v w : V) (C : List Prc) (mv : PS2), vs = [v, w] ∧ Rep K H v (coreDa C) ∧ OkC C ∧ IsLR K (mv.map pdd) w H ∧ RetLR K ((hon C mv).map pdd) H Q
section
variable {K : PySem.W.Frag} {σ : L2.St} {H H' H0 : Hp} {ta tb te tl : TE} {D : Ends} {tu tz : TS} {ds : List Da} {α β : Type} {b : List α}
/-- for k in range(len(b)) -/
theorem s_accR {f : α → List Da} {SI : Addr → L2.St → Prop} {j : Nat} {l0 : List Da} {t : TA} {n : Int} (h : EvA t σ H [.int n]) (hn : n = (b.length : Int)) (hz : b.length ≤ 1000) (h0 : Acc K H0 SI l0 σ H)
    (hs : ∀ (H0' : Hp) (i : Nat) (x : α) σ' H', Ex H0 H0' → (∀ u d, Rep K H u d → Rep K H0' u d) → b[i]? = some x → Acc K H0' SI (l0 ++ (b.take i).flatMap f) σ' H' → tu { D with nx := Acc K H0' SI (l0 ++ (b.take i).flatMap f ++ f x), ct := Acc K H0' SI (l0 ++ (b.take i).flatMap f ++ f x), bk := D.nx } (σ'.set j (some (.int (i : Int)))) H')
    (hd : ∀ σ' H', Acc K H0 SI (l0 ++ b.flatMap f) σ' H' → D.nx σ' H') : tFor (iRng1 t) (gName j) tu D σ H := by
  subst hn
  obtain ⟨F0, us0, e0, hF0, si0, hf0, r0⟩ := h0
  let H0' : Hp := del F0 H
  have e01 : Ex H0 H0' := del_none hF0 e0
  have e11 : Ex H0' H := del_ex
  refine s_forR1 h ⟨by omega, by omega⟩ (fun i => Acc K H0' SI (l0 ++ (b.take i).flatMap f)) (fun H1 e1 => ?_) (fun i σ' H' hi q => ?_) (fun σ' H' q => ?_)
  · exact ⟨F0, us0, e11.trans e1, del_at, si0, e1 _ _ hf0, by simpa using r0.ex e1⟩
  · obtain ⟨x, hx⟩ : ∃ x, b[i]? = some x := ⟨_, List.getElem?_eq_getElem (by omega)⟩
    have := hs H0' i x σ' H' e01 (fun u d r => Reps.keep8 (st := F0) hf0 r) hx q
    rw [List.append_assoc, show (b.take i).flatMap f ++ f x = (b.take (i + 1)).flatMap f by rw [take_succ_of hx]; simp] at this
    exact this
  · rw [Int.toNat_natCast, List.take_length] at q
    obtain ⟨F, us, e, hF, si, hf, r⟩ := q
    exact hd σ' H' ⟨F, us, e01.trans e, fresh_back e01 hF, si, hf, r⟩
theorem ev_lenR {v : V} (h : Ev te σ H v) (r : Rep K H v (.t ds)) : Ev (tCB (rLen K) (tCons te tNil)) σ H (.int (ds.length : Int)) := by
  unfold Rep at r
  obtain ⟨p, us, rfl, hp, r⟩ := r
  rw [← r.len]
  exact ev_lenT h hp
/-- an item by a place that is told -/
theorem ev_ixD {i : Nat} {ds : List Da} {d : Da} {v : V} (h : Ev te σ H v) (hi : Ev tb σ H (.int (i : Int))) (r : Rep K H v (.t ds)) (hd : ds[i]? = some d) : EvP (tOp (rIxT K) te tb) σ H (fun v H => Rep K H v d) := by
  unfold Rep at r
  obtain ⟨p, vs, rfl, hp, r⟩ := r
  obtain ⟨w, hw, rw'⟩ := r.at_ hd
  exact ep_R (ev_ixT (i := i) h hi hp hw) rw'
/-- e[i], e told by what it stands for -/
theorem ep_ixP {ds : List Da} {d : Da} {i : Nat} (h : EvP te σ H (fun v H => Rep K H v (.t ds))) (hi : ∀ H1, Ex H H1 → Ev tb σ H1 (.int (i : Int))) (hd : ds[i]? = some d) : EvP (tOp (rIxT K) te tb) σ H (fun v H => Rep K H v d) := fun H1 e Q q =>
  h H1 e _ fun v H2 e2 r => by
    unfold Rep at r
    obtain ⟨p, vs, rfl, hp, r⟩ := r
    obtain ⟨w, hw, rw'⟩ := r.at_ hd
    refine hi H2 (e.trans e2) H2 (Ex.refl _) _ fun H3 e3 => ?_
    exact ⟨p, vs, (i : Int), w, rfl, rfl, st_of (e3 _ _ hp), atI_nat hw, q w H3 (e2.trans e3) (rw'.ex e3)⟩
theorem ep_lst8 {v : V} {l : List Da} (h : Ev te σ H v) (r : IsLR K l v H) : EvP te σ H (IsLR K l) := fun H1 e Q q => h H1 e _ fun H2 e2 => q _ H2 e2 (sta_LR _ _ _ (e.trans e2) r)
theorem ev_Rs {x : Str} (h : EvP te σ H (fun v H => Rep K H v (.s x))) : Ev te σ H (.str x) := ev_of h fun v' H2 p => rep_str p
theorem ev_Ri {x : Int} (h : EvP te σ H (fun v H => Rep K H v (.i x))) : Ev te σ H (.int x) := ev_of h fun v' H2 p => rep_intv p
end
section
variable {P : Program} {w : World} {K : PySem.W.Frag} {mg : Str → Option Value} {base : Heap}
theorem sc_law_handed_on : FnScope ["core", "moves", "found", "p", "s", "items", "k", "q"] ["core", "moves"] (defScope (topS 33)) := ⟨rfl, rfl, rfl, by decide +kernel, rfl, by decide +kernel, by decide +kernel⟩
theorem ok_law_handed_on {f : Addr} {fd : FuncData} (F : FnP K "_law_handed_on" "_law_handed_on" (topS 33) f fd) (T : Bt mg) (h_law_statements : Has P w K mg base "_law_statements" ["body"] 4 (spStmts K 4)) : FnOk P w K mg base CX0 5 f fd ["core", "moves"] (spHon K) := by
  refine F.ok sc_law_handed_on (fun vs H Q E h => ?_) (fun cdv A outer s H vs Q E hr h => ?_)
  · obtain ⟨v, w, C, mv, rfl, _⟩ := h
    rfl
  · obtain ⟨v, w, C, mv, rfl, hv, hC, hw0, q⟩ := h
    refine ⟨_, PSs.nox
      (pss_cons (ps_set (i := 2) sc_law_handed_on.nd rfl (Or.inl rfl) (pe_lst pa_nil))
      (pss_cons (ps_for PassesOwn.never rfl (pi_tupK K rfl (pv 0)) (pg_name (i := 3) sc_law_handed_on.nd rfl (Or.inl rfl)) (pss_one (ps_for PassesOwn.never rfl (pi_listK K rfl (pe_callH h_law_statements (hr.mono (by decide)) (by rfl) (pa_cons (pe_ix (ix_tupK K rfl) (pv 3) pe_int (fun _ _ => rfl)) pa_nil))) (pg_name (i := 4) sc_law_handed_on.nd rfl (Or.inr rfl)) (pss_one (ps_if (pt_cmpR op_eq (pe_ix (ix_tupK K rfl) (pv 4) pe_int (fun _ _ => rfl)) pe_str (nomark _)) (pss_cons (ps_set (i := 5) sc_law_handed_on.nd rfl (Or.inl rfl) (pe_ix (ix_tupK K rfl) (pe_ix (ix_listK K rfl) (pe_lc (own := [("q", 7)])  rfl sc_law_handed_on.nd  (pi_tupK K rfl (pv 0)) (blkOk_by (own := [("q", 7)]) (N := ["core", "moves", "found", "p", "s", "items", "k", "q"]) (sc := defScope (topS 33)) (by decide +kernel)) (fun _ _ _ _ _ => (pg_name (i := 7) sc_law_handed_on.nd rfl (Or.inl rfl))) (fun _ _ _ _ _ => (pts_one (pt_cmpR op_eq (pe_ix (ix_tupK K rfl) (pv 7) pe_int (fun _ _ => rfl)) (pe_ix (ix_tupK K rfl) (pv 4) pe_int (fun _ _ => rfl)) (nomark _)))) (fun _ _ _ _ _ => (pv 7))) pe_int (fun _ _ => rfl)) pe_int (fun _ _ => rfl)))
      (pss_one (ps_for PassesOwn.never rfl (pi_range1 (by rfl) T.m_range (pa_cons (pe_callB (call_lenK K rfl) (by rfl) T.m_len (by decide +kernel) (pa_cons (pv 5) pa_nil)) pa_nil)) (pg_name (i := 6) sc_law_handed_on.nd rfl (Or.inl rfl)) (pss_one (ps_if (PW.pt (pw_and (pt_cmpR op_eq (pe_ix (ix_tupK K rfl) (pe_ix (ix_tupK K rfl) (pe_ix (ix_tupK K rfl) (pv 4) pe_int (fun _ _ => rfl)) (pv 6) (fun _ _ => rfl)) pe_int (fun _ _ => rfl)) pe_str (nomark _)) (pw_and (pt_cmpR (op_in8 hr.units) (pe_tup (pa_cons (pe_ix (ix_tupK K rfl) (pv 4) pe_int (fun _ _ => rfl)) (pa_cons (pe_ix (ix_tupK K rfl) (pe_ix (ix_tupK K rfl) (pv 5) (pv 6) (fun _ _ => rfl)) pe_int (fun _ _ => rfl)) pa_nil))) (pv 1) rfl) (pw_and1 (pt_cmpR (op_notIn8 hr.units) (pe_tup (pa_cons (pe_ix (ix_tupK K rfl) (pv 3) pe_int (fun _ _ => rfl)) (pa_cons (pe_ix (ix_tupK K rfl) (pe_ix (ix_tupK K rfl) (pe_ix (ix_tupK K rfl) (pv 4) pe_int (fun _ _ => rfl)) (pv 6) (fun _ _ => rfl)) pe_int (fun _ _ => rfl)) pa_nil))) (pv 1) rfl))))) (pss_one (ps_expr (pe_bm PySem.F.plainAttrs_list PySem.F.slot_list_append PySem.F.type_list_append mt_append (pv 2) (pa_cons (pe_tup (pa_cons (pe_ix (ix_tupK K rfl) (pv 3) pe_int (fun _ _ => rfl)) (pa_cons (pe_ix (ix_tupK K rfl) (pe_ix (ix_tupK K rfl) (pe_ix (ix_tupK K rfl) (pv 4) pe_int (fun _ _ => rfl)) (pv 6) (fun _ _ => rfl)) pe_int (fun _ _ => rfl)) pa_nil))) pa_nil)))) pss_nil))))) pss_nil)))))
      (pss_one (ps_ret (pv 2))))), ?_⟩
    have hv0 := hv
    unfold coreDa Rep at hv
    obtain ⟨a, us, rfl, ha, hr2⟩ := hv
    refine q_asgR (ef_nil K) fun F us0 H1 hF e1 h1 r1 => ?_
    refine q_accT (b := C) (g := Prc.da) (f := fun p => ((flat 4 p.body).flatMap (honS C mv p)).map pdd) (l0 := []) (H0 := H) (SI := fun F σ => ∃ x3 x4 x5 x6 x7, σ = [some (.ref a), some w, some (.ref F), x3, x4, x5, x6, x7]) (ev_var rfl) ha hr2 ⟨F, us0, e1, hF, ⟨_, _, _, _, _, rfl⟩, h1, r1⟩ ?_ ?_
    · rintro i p vp σ' H' hp hvp ⟨F, us, e, hF, ⟨x3, x4, x5, x6, x7, rfl⟩, hf, r⟩
      have hpC := List.mem_of_getElem? hp
      have hP := hC.ok p hpC
      have hl := flat_len 4 p.body hP.wb
      rw [fcap4] at hl
      have hz : (([] : List Da) ++ (C.take i).flatMap fun p => ((flat 4 p.body).flatMap (honS C mv p)).map pdd).length ≤ 42120 := by
        rw [List.nil_append]
        refine Nat.le_trans (flatMap_len _ 7020 _ fun p hp => ?_) (Nat.le_trans (Nat.mul_le_mul_right 7020 (Nat.le_trans (List.length_take_le' ..) hC.n6)) (by decide))
        rw [List.length_map]
        exact honP_len hC (List.mem_of_mem_take hp)
      generalize (([] : List Da) ++ (C.take i).flatMap fun p => ((flat 4 p.body).flatMap (honS C mv p)).map pdd) = l0 at hz r ⊢
      have hvp0 := hvp
      rw [prc_da] at hvp
      show tFor _ _ _ _ [some (V.ref a), some w, some (.ref F), some vp, x4, x5, x6, x7] H'
      refine s_accL (K := K) (H0 := H) (b := flat 4 p.body) (g := Stm.da) (f := fun s => (honS C mv p s).map pdd) (l0 := l0) (SI := fun F σ => ∃ x4 x5 x6 x7, σ = [some (.ref a), some w, some (.ref F), some vp, x4, x5, x6, x7]) (ef_callRA (er_cons (ev_ixR (i := 8) (ev_var rfl) hvp rfl) er_nil) fun vs H1 e1 r Q' hQ E' => by
        obtain ⟨v8, rfl, r8⟩ := reps_one r
        exact ⟨v8, p.body, rfl, r8, hP.wb, Nat.le_refl _, hQ⟩) ⟨F, us, e, hF, ⟨_, _, _, _, rfl⟩, hf, r⟩ ?_ ?_
      · rintro H0' i2 st vs2 σ2 H2 e0 kp hst hvs0 ⟨F2, us2, e2, hF2, ⟨y4, y5, y6, y7, rfl⟩, hf2, r2⟩
        have hm := List.mem_of_getElem? hst
        have hz2 : (l0 ++ ((flat 4 p.body).take i2).flatMap fun s => (honS C mv p s).map pdd).length ≤ 49140 := by
          rw [List.length_append]
          have h1 := len_take_flat (f := fun s => (honS C mv p s).map pdd) (b := flat 4 p.body) i2
          have h2 := honP_len (mv := mv) hC hpC
          have h3 : ((flat 4 p.body).flatMap fun s => (honS C mv p s).map pdd).length = ((flat 4 p.body).flatMap (honS C mv p)).length := by rw [← List.map_flatMap, List.length_map]
          omega
        generalize (l0 ++ ((flat 4 p.body).take i2).flatMap fun s => (honS C mv p s).map pdd) = l2 at hz2 r2 ⊢
        have hvs := hvs0.ex e2
        show tIfS _ _ _ _ [some (V.ref a), some w, some (.ref F2), some vp, some vs2, y5, y6, y7] H2
        refine s_when (et_tag (ev_var rfl) hvs) (fun hB H3 e3 => ?_) (fun hB H3 e3 => ?_)
        · obtain ⟨c, as, ts, o, rfl⟩ := tag_call hB
          obtain ⟨p2, hq2, hn2, hfd2, hi2, ha2⟩ := callee_of hP hC hm
          subst hn2
          have hok := (hP.ok _ hm).2.1
          have hvs3 := hvs.ex e3
          rw [Stm.da] at hvs3
          have e03 : Ex H H3 := e0.trans (e2.trans e3)
          have hcore : Rep K H3 (.ref a) (coreDa C) := hv0.ex e03
          have il := (hC.ok p2 hq2).il
          have al : as.length = 3 := by
            have := congrArg List.length ha2
            rw [List.length_map, List.length_map, il] at this
            exact this
          refine q_asgP (P := fun v H => Rep K H v (.t (p2.items.map itemDa))) (ep_ixP (i := 1) (ds := [.s p2.name, .t (p2.items.map itemDa), .t (p2.res.map Da.s), p2.plc, .t [], .t [], .t [], .t [], .t (das p2.body)]) (ev_ixN (i := 0) (ep_LR (ef_lcT (b := C) (g0 := Prc.da) (e := Prc.da) (f := fun q => decide (q.name = p2.name)) (ev_var rfl) (e03 _ _ ha) (hr2.ex e03) (by have := hC.n6; omega) fun i p' v' Hb hb eb rb => ⟨_, tgt_name, rfl, ?_, fun _ => ep_R (ev_var rfl) rb⟩)) ?_) (fun _ _ => ev_c) rfl) fun vi H4 e4 hvi => ?_
          · rw [prc_da] at rb
            exact et_strs (ev_ixRs (i := 0) (ev_var rfl) rb rfl) (ev_ixRs (i := 1) (ev_var rfl) (hvs3.ex eb) rfl)
          · rw [List.getElem?_map, ← List.head?_eq_getElem?, List.head?_filter, hfd2]; rfl
          have e24 := e2.trans (e3.trans e4)
          have hvs4 := hvs3.ex e4
          refine s_accR (K := K) (H0 := H0') (b := p2.items.zip as) (f := fun x => (honI mv p.name p2.name x).map pdd) (l0 := l2) (SI := fun F σ => ∃ x6 x7, σ = [some (.ref a), some w, some (.ref F), some vp, some vs2, some vi, x6, x7]) (ea_cons (ev_lenR (ev_var rfl) hvi) ea_nil) (by rw [List.length_zip, List.length_map, il, al]; rfl) (by rw [List.length_zip, il, al]; decide) ⟨F2, us2, e24, hF2, ⟨_, _, rfl⟩, (e3.trans e4) _ _ hf2, r2.ex (e3.trans e4)⟩ ?_ ?_
          · rintro H0'' i5 x σ5 H5 e05 kp5 hx ⟨F5, us5, e5, hF5, ⟨z6, z7, rfl⟩, hf5, r5⟩
            obtain ⟨it, ar⟩ := x
            have hx' := List.getElem?_zip_eq_some.mp hx
            have hz5 : (l2 ++ ((p2.items.zip as).take i5).flatMap fun x => (honI mv p.name p2.name x).map pdd).length ≤ 50000 := by
              rw [List.length_append]
              have : (((p2.items.zip as).take i5).flatMap fun x => (honI mv p.name p2.name x).map pdd).length ≤ 3 * 1 := by
                refine Nat.le_trans (flatMap_len _ 1 _ fun x hx => by rw [List.length_map]; unfold honI; split <;> simp) (Nat.mul_le_mul_right 1 (Nat.le_trans (List.length_take_le' ..) ?_))
                rw [List.length_zip, il]
                omega
              omega
            generalize (l2 ++ ((p2.items.zip as).take i5).flatMap fun x => (honI mv p.name p2.name x).map pdd) = l5 at hz5 r5 ⊢
            show tIfS _ _ _ _ [some (V.ref a), some w, some (.ref F5), some vp, some vs2, some vi, some (.int (i5 : Int)), z7] H5
            have hvs5 := (kp5 _ _ hvs4).ex e5
            have hvi5 := (kp5 _ _ hvi).ex e5
            have hvp5 := ((kp _ _ hvp).ex (e2.trans (e3.trans e4)) |> kp5 _ _).ex e5
            have hw5 : IsLR K ((mv.map pd).map td) w H5 := by
              have := sta_LR _ _ _ (e0.trans (e05.trans e5)) hw0
              rwa [pdd_map] at this
            have hit : (p2.items.map itemDa)[i5]? = some (itemDa it) := by rw [List.getElem?_map, hx'.1]; rfl
            have har : (as.map Arg.da)[i5]? = some ar.da := by rw [List.getElem?_map, hx'.2]; rfl
            have ar0 : ∀ {H6 : Hp} {σ6 : L2.St}, Ex H5 H6 → σ6[4]? = some (some vs2) → σ6[6]? = some (some (.int (i5 : Int))) → EvP (tOp (rIxT K) (tOp (rIxT K) (tVar 4) (tC (.int 2))) (tVar 6)) σ6 H6 (fun v H => Rep K H v ar.da) := fun e6 h4 h6 =>
              ep_ixP (ev_ixR (i := 2) (ev_var h4) (hvs5.ex e6) rfl) (fun _ _ => ev_var h6) har
            have it1 : ∀ {H6 : Hp} {σ6 : L2.St}, Ex H5 H6 → σ6[5]? = some (some vi) → σ6[6]? = some (some (.int (i5 : Int))) → EvP (tOp (rIxT K) (tOp (rIxT K) (tVar 5) (tVar 6)) (tC (.int 1))) σ6 H6 (fun v H => Rep K H v (.s it.2)) := fun e6 h5 h6 =>
              ep_ixP (i := 1) (ds := [.s (ikind it.1), .s it.2]) (ev_ixD (ev_var h5) (ev_var h6) (hvi5.ex e6) hit) (fun _ _ => ev_c) rfl
            have tag : ∀ {H6 : Hp} {σ6 : L2.St}, Ex H5 H6 → σ6[4]? = some (some vs2) → σ6[6]? = some (some (.int (i5 : Int))) → EvT (tTest (tOp rEq (tOp (rIxT K) (tOp (rIxT K) (tOp (rIxT K) (tVar 4) (tC (.int 2))) (tVar 6)) (tC (.int 0))) (tC (.str "array")))) σ6 H6 ar.isA := fun e6 h4 h6 => by
              cases ar with
              | arr x => exact et_is (et_strs (ev_Rs (ep_ixP (i := 0) (ds := [.s "array", .s x]) (ar0 e6 h4 h6) (fun _ _ => ev_c) rfl)) ev_c) (decide_eq_true rfl)
              | num x => exact et_is (et_strs (ev_Rs (ep_ixP (i := 0) (ds := [.s "minus", .t [.s "name", .s x], .t [.s "number", .i 1]]) (ar0 e6 h4 h6) (fun _ _ => ev_c) rfl)) ev_c) (show decide (("minus" : Str) = "array") = false by decide +kernel)
            refine s_when (b := decide (ar.isA = true ∧ (p2.name, it.2) ∈ mv ∧ (p.name, ar.nm) ∉ mv)) (et_is (et_and (tag (Ex.refl _) rfl rfl) fun hA => et_and (b := decide ((p.name, ar.nm) ∉ mv)) (et_is (et_test (ev_in8 (neg := false) (k := pd (p2.name, it.2)) (ks := mv.map pd) (er_tup (er_cons (ev_ixR (i := 1) (ev_var rfl) hvs5 rfl) (er_cons (it1 (Ex.refl _) rfl rfl) er_nil)) (by simp [pd])) (ep_lst8 (ev_var rfl) hw5))) (show _ = decide ((p2.name, it.2) ∈ mv) from ?_)) fun _ => ?_) ?_) (fun hB H6 e6 => ?_) (fun hB H6 e6 => ?_)
            · exact decide_eq_decide.mpr pd_mem
            · cases ar with
              | num x => cases hA
              | arr x =>
                exact et_is (et_test (ev_in8 (neg := true) (k := pd (p.name, x)) (ks := mv.map pd) (er_tup (er_cons (ev_ixR (i := 0) (ev_var rfl) hvp5 rfl) (er_cons (ep_ixP (i := 1) (ds := [.s "array", .s x]) (ar0 (Ex.refl _) rfl rfl) (fun _ _ => ev_c) rfl) er_nil)) (by simp [pd])) (ep_lst8 (ev_var rfl) hw5))) (by
                  rw [if_pos rfl, ← decide_not]
                  exact decide_eq_decide.mpr (not_congr pd_mem))
            · rw [Bool.decide_and, Bool.decide_and, Bool.decide_eq_true]
            · have hB' := of_decide_eq_true hB
              cases ar with
              | num x => cases hB'.1
              | arr x =>
                refine s_appR (d := pdd (p.name, x)) (e6 _ _ hf5) (r5.ex e6) (by omega) (ev_var rfl) (er_tup (er_cons (ev_ixR (i := 0) (ev_var rfl) (hvp5.ex e6) rfl) (er_cons (ep_ixP (i := 1) (ds := [.s "array", .s x]) (ar0 e6 rfl rfl) (fun _ _ => ev_c) rfl) er_nil)) (by simp [pd])) fun H7 us7 x7 h7 r7 => ⟨F5, us7, exs_base hF5 (e5.trans e6) x7, hF5, ⟨_, _, rfl⟩, h7, ?_⟩
                have e8 : honI mv p.name p2.name (it, .arr x) = [(p.name, x)] := by unfold honI; exact if_pos hB'
                rw [e8]
                exact r7
            · have hB' := of_decide_eq_false hB
              refine ⟨F5, us5, e5.trans e6, hF5, ⟨_, _, rfl⟩, e6 _ _ hf5, ?_⟩
              have e8 : honI mv p.name p2.name (it, ar) = [] := by unfold honI; exact if_neg hB'
              rw [e8, List.map_nil, List.append_nil]
              exact r5.ex e6
          · rintro σ5 H5 ⟨F5, us5, e5, hF5, ⟨z6, z7, rfl⟩, hf5, r5⟩
            refine ⟨F5, us5, e5, hF5, ⟨_, _, _, _, rfl⟩, hf5, ?_⟩
            have ee : (honS C mv p (.call p2.name as ts o)).map pdd = (p2.items.zip as).flatMap fun x => (honI mv p.name p2.name x).map pdd := by
              simp only [honS]
              rw [hi2, List.map_flatMap]
            rw [ee]
            exact r5
        · refine ⟨F2, us2, e2.trans e3, hF2, ⟨_, _, _, _, rfl⟩, e3 _ _ hf2, ?_⟩
          have ee : honS C mv p st = [] := by
            cases st with
            | call c as ts o => exact absurd rfl (of_decide_eq_false hB)
            | _ => rfl
          rw [ee, List.map_nil, List.append_nil]
          exact r2.ex e3
      · rintro σ5 H5 ⟨F5, us5, e5, hF5, ⟨z4, z5, z6, z7, rfl⟩, hf5, r5⟩
        refine ⟨F5, us5, e5, hF5, ⟨_, _, _, _, _, rfl⟩, hf5, ?_⟩
        rw [List.map_flatMap]
        exact r5
    · rintro σ' H' ⟨F, us, e, hF, ⟨x3, x4, x5, x6, x7, rfl⟩, hf, r⟩
      refine s_ret (ev_var rfl) fun H3 e3 => q F us H3 hF (e.trans e3) (e3 _ _ hf) ?_
      unfold hon
      rw [List.map_flatMap]
      exact r.ex e3
end
end K88

set_option maxHeartbeats 4000000
namespace K88
open PySem L2 Evl
/-! ### all moves of the law -/
theorem zip_isA {C : List Prc} {p : Prc} (hP : OkP C p) (hC : OkC C) {c : Str} {as : List Arg} {ts : List Str} {o : Option Int} (hm : Stm.call c as ts o ∈ flat 4 p.body) {it : Bool × Str} {ar : Arg} (hz : (it, ar) ∈ (itemsOf C c).zip as) : it.1 = ar.isA := by
  obtain ⟨q, hq, hn, _, hi2, ha⟩ := callee_of hP hC hm
  rw [hi2] at hz
  obtain ⟨i, hil, e⟩ := List.getElem_of_mem hz
  have h1 : (q.items.zip as)[i]? = some (it, ar) := by rw [List.getElem?_eq_getElem hil, e]
  obtain ⟨h2, h3⟩ := List.getElem?_zip_eq_some.mp h1
  have h4 : (as.map Arg.isA)[i]? = some ar.isA := by rw [List.getElem?_map, h3]; rfl
  rw [ha, List.getElem?_map, h2] at h4
  exact Option.some.inj h4
theorem hon_mem {C : List Prc} {mv : PS2} {q : Str × Str} : q ∈ hon C mv ↔ ∃ p c as ts o it ar, p ∈ C ∧ Stm.call c as ts o ∈ flat 4 p.body ∧ (it, ar) ∈ (itemsOf C c).zip as ∧ ar.isA = true ∧ (c, it.2) ∈ mv ∧ q = (p.name, ar.nm) ∧ q ∉ mv := by
  unfold hon
  rw [List.mem_flatMap]
  constructor
  · rintro ⟨p, hp, hq⟩
    obtain ⟨s, hs, hq⟩ := List.mem_flatMap.mp hq
    cases s with
    | call c as ts o =>
      simp only [honS] at hq
      obtain ⟨⟨it, ar⟩, hz, hq⟩ := List.mem_flatMap.mp hq
      unfold honI at hq
      by_cases hc : ar.isA = true ∧ (c, it.2) ∈ mv ∧ (p.name, ar.nm) ∉ mv
      · rw [if_pos hc] at hq
        have := List.mem_singleton.mp hq
        exact ⟨p, c, as, ts, o, it, ar, hp, hs, hz, hc.1, hc.2.1, this, this ▸ hc.2.2⟩
      · rw [if_neg hc] at hq; cases hq
    | _ => simp [honS] at hq
  · rintro ⟨p, c, as, ts, o, it, ar, hp, hs, hz, h1, h2, rfl, h3⟩
    refine ⟨p, hp, List.mem_flatMap.mpr ⟨_, hs, ?_⟩⟩
    simp only [honS]
    refine List.mem_flatMap.mpr ⟨(it, ar), hz, ?_⟩
    unfold honI
    rw [if_pos ⟨h1, h2, h3⟩]
    exact List.mem_singleton.mpr rfl
structure GoodM (C : List Prc) (mv : PS2) : Prop where
  snd : ∀ q, q ∈ mv → MvL C q.1 q.2
  bas : ∀ p, p ∈ C → ∀ x, x ∈ (flat 4 p.body).flatMap chg → (p.name, x) ∈ mv
def missL (C : List Prc) (mv : PS2) : Nat := (C.map fun p => (p.av.filter fun y => !decide ((p.name, y) ∈ mv)).length).sum
theorem missL_le {C : List Prc} (hC : OkC C) (mv : PS2) : missL C mv ≤ 18 := by
  have key : ∀ D : List Prc, (∀ p, p ∈ D → p ∈ C) → (D.map fun p => (p.av.filter fun y => !decide ((p.name, y) ∈ mv)).length).sum ≤ D.length * 3 := fun D => by
    induction D with
    | nil => exact fun _ => Nat.le_refl _
    | cons p D ih =>
      intro h
      have h1 := ih fun q hq => h q (List.mem_cons_of_mem _ hq)
      have h2 := List.length_filter_le (fun y => !decide ((p.name, y) ∈ mv)) p.av
      rw [(hC.ok p (h p List.mem_cons_self)).ra] at h2
      simp only [List.map_cons, List.sum_cons, List.length_cons]
      omega
  have h1 := key C fun p hp => hp
  have h6 := hC.n6
  unfold missL
  omega
theorem good_step {C : List Prc} (hC : OkC C) {mv : PS2} (g : GoodM C mv) : GoodM C (mv ++ hon C mv) := by
  refine ⟨fun q hq => ?_, fun p hp x hx => List.mem_append_left _ (g.bas p hp x hx)⟩
  rcases List.mem_append.mp hq with h | h
  · exact g.snd q h
  · obtain ⟨p, c, as, ts, o, it, ar, hp, hs, hz, h1, h2, rfl, h3⟩ := hon_mem.mp h
    exact .step hp hs hz ((zip_isA (hC.ok p hp) hC hs hz).trans h1) (g.snd _ h2)
theorem miss_step {C : List Prc} (hC : OkC C) {mv : PS2} (h : hon C mv ≠ []) : missL C (mv ++ hon C mv) < missL C mv := by
  obtain ⟨q, hq⟩ := List.exists_mem_of_ne_nil _ h
  obtain ⟨p, c, as, ts, o, it, ar, hp, hs, hz, h1, h2, rfl, h3⟩ := hon_mem.mp hq
  have hav : ar.nm ∈ p.av := by
    obtain ⟨_, _, _, _, _, h⟩ := zip_kind (hC.ok p hp) hC hs hz ((zip_isA (hC.ok p hp) hC hs hz).trans h1)
    exact h
  have imp : ∀ (p' : Prc) (z : Str), (!decide ((p'.name, z) ∈ mv ++ hon C mv)) = true → (!decide ((p'.name, z) ∈ mv)) = true := fun p' z h => by
    rw [Bool.not_eq_true', decide_eq_false_iff_not] at h ⊢
    exact fun c => h (List.mem_append_left _ c)
  refine sum_lt8 _ _ C (fun q _ => filter_le8 _ _ _ fun z _ h => imp q z h) ⟨p, hp, filter_lt8 _ _ _ (fun z _ h => imp p z h) ⟨ar.nm, hav, ?_, ?_⟩⟩
  · rw [Bool.not_eq_false', decide_eq_true_eq]
    exact List.mem_append_right _ hq
  · rw [Bool.not_eq_true', decide_eq_false_iff_not]
    exact h3
theorem moves_iff {C : List Prc} (hC : OkC C) {mv : PS2} (g : GoodM C mv) (h : hon C mv = []) (p : Prc) (hp : p ∈ C) (x : Str) : (p.name, x) ∈ mv ↔ MvL C p.name x := by
  refine ⟨fun h => g.snd _ h, fun hm => ?_⟩
  suffices ∀ n z, MvL C n z → (n, z) ∈ mv from this _ _ hm
  intro n z hm
  induction hm with
  | base hq hx => exact g.bas _ hq _ hx
  | @step p' c as ts o it ar hp' hs hz hi _ ih =>
    by_cases hmem : (p'.name, ar.nm) ∈ mv
    · exact hmem
    · have : (p'.name, ar.nm) ∈ hon C mv := hon_mem.mpr ⟨p', c, as, ts, o, it, ar, hp', hs, hz, (zip_isA (hC.ok p' hp') hC hs hz).symm.trans hi, ih, rfl, hmem⟩
      rw [h] at this
      cases this
def spAll (K : PySem.W.Frag) : Sp := fun vs H Q _ => ∃ (v : V) (C : List Prc), vs = [v] ∧ Rep K H v (coreDa C) ∧ OkC C ∧
  ∀ (a : Addr) (us : List V) (H2 : Hp) (mv : PS2), H a = none → Ex H H2 → H2 a = some (.lst us) → Reps K H2 us (mv.map pdd) → (∀ p, p ∈ C → ∀ x, (p.name, x) ∈ mv ↔ MvL C p.name x) → Q (.ref a) H2
section
variable {K : PySem.W.Frag} {σ : L2.St} {H H' H0 : Hp} {ta tb te tl : TE}
theorem ef_catB {la lb : List Da} (ha : EvP ta σ H (IsLR K la)) (hb : EvP tb σ H (IsLR K lb)) (hz : la.length + lb.length ≤ 10000000) : EvF (tOp rCat ta tb) σ H (NewLR K (la ++ lb)) := fun H1 e Q q =>
  ha H1 e _ fun x H2 e2 ⟨p, xs, hx, h1, r1⟩ => hb H2 (e.trans e2) _ fun y H3 e3 ⟨p2, ys, hy, h2, r2⟩ => by
    subst hx hy
    exact ⟨p, p2, xs, ys, rfl, rfl, e3 _ _ h1, h2, by rw [r1.len, r2.len, sizeLine_eq]; omega, fun p3 hp3 => q _ _ ((e2.trans e3).trans (Ex.new hp3)) ⟨p3, xs ++ ys, rfl, fresh_back (e2.trans e3) hp3, upd_same, reps_new hp3 (Reps.append (r1.ex e3) r2)⟩⟩
/-- such lists as the model's data -/
def tdD (k : List Str) : PyData := .tuple (k.map PyData.str)
theorem dp_strs : ∀ k : List Str, DpAll K H (k.map V.str) (k.map PyData.str)
  | [] => .nil
  | x :: k => .cons (.str x) (dp_strs k)
theorem dp_rows : ∀ {us : List V} {ks : List (List Str)}, Reps K H us (ks.map td) → DpAll K H us (ks.map tdD)
  | us, [], h => by
    have h2 : Reps K H us [] := h
    unfold Reps at h2
    subst h2
    exact .nil
  | us, k :: ks, h => by
    have h2 : Reps K H us (td k :: ks.map td) := h
    unfold Reps at h2
    obtain ⟨v, r, rfl, h1, h2⟩ := h2
    obtain ⟨a, rfl, ha⟩ := rep_td h1
    exact .cons (.tup (.inl (.inl ha)) (dp_strs k)) (dp_rows h2)
theorem lay_strs : ∀ k : List Str, (∀ x, x ∈ k → PyData.strOk x = true) → PyData.canLayAll0 (k.map PyData.str) = true ∧ PyData.depthAll (k.map PyData.str) = 0
  | [], _ => ⟨rfl, rfl⟩
  | x :: k, h => by
    obtain ⟨h1, h2⟩ := lay_strs k fun y hy => h y (List.mem_cons_of_mem _ hy)
    have h3 := h x List.mem_cons_self
    refine ⟨?_, ?_⟩
    · rw [List.map_cons, PyData.canLayAll0, h1, Bool.and_true]
      exact h3
    · rw [List.map_cons, PyData.depthAll, h2]
      rfl
theorem lay_rows : ∀ ks : List (List Str), (∀ k, k ∈ ks → ∀ x, x ∈ k → PyData.strOk x = true) → PyData.canLayAll0 (ks.map tdD) = true ∧ PyData.depthAll (ks.map tdD) ≤ 1
  | [], _ => ⟨rfl, Nat.zero_le _⟩
  | k :: ks, h => by
    obtain ⟨h1, h2⟩ := lay_rows ks fun y hy => h y (List.mem_cons_of_mem _ hy)
    obtain ⟨h3, h4⟩ := lay_strs k (h k List.mem_cons_self)
    refine ⟨?_, ?_⟩
    · rw [List.map_cons, PyData.canLayAll0, h1, Bool.and_true, tdD, PyData.canLay0]
      exact h3
    · rw [List.map_cons, PyData.depthAll, tdD, PyData.depth, h4]
      omega
/-- xs == [] -/
theorem ev_eqNil {ks : List (List Str)} (h : EvP ta σ H (IsLR K (ks.map td))) (hk : ∀ k, k ∈ ks → ∀ x, x ∈ k → PyData.strOk x = true) : Ev (tOp (rEqD K) ta (tLst tNil)) σ H (.bl ks.isEmpty) := fun H1 e Q q =>
  h H1 e _ fun v H2 e2 ⟨p, us, hv, hp, r⟩ => by
    subst hv
    refine ⟨by show 0 ≤ sizeLine; omega, fun l hl => ?_⟩
    have e3 : Ex H2 (upd H2 l (.lst [])) := Ex.new hl
    obtain ⟨h1, h2⟩ := lay_rows ks hk
    refine ⟨.list (ks.map tdD), .list [], .lst (sq_of (e3 _ _ hp)) (dp_rows (r.ex e3)), .lst (sq_of upd_same) .nil, ?_, rfl, ?_⟩
    · unfold SeqAt.shaped
      rw [Bool.and_eq_true]
      refine ⟨?_, decide_eq_true ?_⟩
      · rw [PyData.canLay0]; exact h1
      · rw [PyData.depth]; omega
    · have : PyData.eqv (.list (ks.map tdD)) (.list []) = ks.isEmpty := by cases ks <;> rfl
      rw [this]
      exact q _ (e2.trans e3)
end
section
variable {P : Program} {w : World} {K : PySem.W.Frag} {mg : Str → Option Value} {base : Heap}
theorem sc_law_all_moves : FnScope ["core", "moves", "p", "turn", "more", "x"] ["core"] (defScope (topS 34)) := ⟨rfl, rfl, rfl, by decide +kernel, rfl, by decide +kernel, by decide +kernel⟩
theorem ok_law_all_moves {f : Addr} {fd : FuncData} (F : FnP K "_law_all_moves" "_law_all_moves" (topS 34) f fd) (T : Bt mg) (h_law_changed_by : Has P w K mg base "_law_changed_by" ["p"] 5 (fun vs H Q _ => ∃ (v : V) (p : Prc), vs = [v] ∧ Rep K H v p.da ∧ Wb 4 p.body ∧ RetLR K (((flat 4 p.body).flatMap chg).map Da.s) H Q))
    (h_law_handed_on : Has P w K mg base "_law_handed_on" ["core", "moves"] 5 (spHon K)) : FnOk P w K mg base CX0 6 f fd ["core"] (spAll K) := by
  refine F.ok sc_law_all_moves (fun vs H Q E h => ?_) (fun cdv A outer s H vs Q E hr h => ?_)
  · obtain ⟨v, C, rfl, _⟩ := h
    rfl
  · obtain ⟨v, C, rfl, hv, hC, q⟩ := h
    refine ⟨_, PSs.nox
      (pss_cons (ps_set (i := 1) sc_law_all_moves.nd rfl (Or.inl rfl) (pe_lst pa_nil))
      (pss_cons (ps_for PassesOwn.never rfl (pi_tupK K rfl (pv 0)) (pg_name (i := 2) sc_law_all_moves.nd rfl (Or.inr rfl)) (pss_one (ps_set (i := 1) sc_law_all_moves.nd rfl (Or.inl rfl) (pe_op op_cat (pv 1) (pe_lc (own := [("x", 5)])  rfl sc_law_all_moves.nd  (pi_listK K rfl (pe_callH h_law_changed_by (hr.mono (by decide)) (by rfl) (pa_cons (pv 2) pa_nil))) (blkOk_by (own := [("x", 5)]) (N := ["core", "moves", "p", "turn", "more", "x"]) (sc := defScope (topS 34)) (by decide +kernel)) (fun _ _ _ _ _ => (pg_name (i := 5) sc_law_all_moves.nd rfl (Or.inl rfl))) (fun _ _ _ _ _ => pts_nil) (fun _ _ _ _ _ => (pe_tup (pa_cons (pe_ix (ix_tupK K rfl) (pv 2) pe_int (fun _ _ => rfl)) (pa_cons (pv 5) pa_nil)))))))))
      (pss_cons (ps_for PassesOwn.never rfl (pi_range1 (by rfl) T.m_range (pa_cons pe_int pa_nil)) (pg_name (i := 3) sc_law_all_moves.nd rfl (Or.inl rfl)) (pss_cons (ps_set (i := 4) sc_law_all_moves.nd rfl (Or.inl rfl) (pe_callH h_law_handed_on (hr.mono (by decide)) (by rfl) (pa_cons (pv 0) (pa_cons (pv 1) pa_nil))))
      (pss_cons (ps_if (pt_cmpR (op_eqDK K rfl hr.units) (pv 4) (pe_lst pa_nil) (nomark _)) (pss_one ps_break) pss_nil)
      (pss_one (ps_set (i := 1) sc_law_all_moves.nd rfl (Or.inl rfl) (pe_op op_cat (pv 1) (pv 4)))))))
      (pss_one (ps_ret (pv 1)))))), ?_⟩
    have hv0 := hv
    unfold coreDa Rep at hv
    obtain ⟨a, us, rfl, ha, hr2⟩ := hv
    have h6 := hC.n6
    have hchg : ∀ p, p ∈ C → ((flat 4 p.body).flatMap chg).length ≤ 4680 := fun p hp => by
      have hw := (hC.ok p hp).wb
      have h1 := flatMap_len chg 2 (flat 4 p.body) fun s hs => chg_len hw hs
      have h2 := flat_len 4 p.body hw
      rw [fcap4] at h2
      omega
    refine q_asgR (ef_nil K) fun F us0 H1 hF e1 h1 r1 => ?_
    refine q_accT (b := C) (g := Prc.da) (f := fun p => ((flat 4 p.body).flatMap chg).map fun x => pdd (p.name, x)) (l0 := []) (H0 := H) (SI := fun F σ => ∃ x2 x3 x4 x5, σ = [some (.ref a), some (.ref F), x2, x3, x4, x5]) (ev_var rfl) ha hr2 ⟨F, us0, e1, hF, ⟨_, _, _, _, rfl⟩, h1, r1⟩ ?_ ?_
    · rintro i p vp σ' H' hp hvp ⟨F, us, e, hF, ⟨x2, x3, x4, x5, rfl⟩, hf, r⟩
      have hpC := List.mem_of_getElem? hp
      have hz : (([] : List Da) ++ (C.take i).flatMap fun p => ((flat 4 p.body).flatMap chg).map fun x => pdd (p.name, x)).length ≤ 28080 := by
        rw [List.nil_append]
        refine Nat.le_trans (flatMap_len _ 4680 _ fun p hp => ?_) (Nat.le_trans (Nat.mul_le_mul_right 4680 (Nat.le_trans (List.length_take_le' ..) h6)) (by decide))
        rw [List.length_map]
        exact hchg p (List.mem_of_mem_take hp)
      generalize (([] : List Da) ++ (C.take i).flatMap fun p => ((flat 4 p.body).flatMap chg).map fun x => pdd (p.name, x)) = l0 at hz r ⊢
      have hch := hchg p hpC
      have hvp0 := hvp
      rw [prc_da] at hvp
      show tAsg _ _ _ [some (V.ref a), some (.ref F), some vp, x3, x4, x5] H'
      have hcomp := ef_lcN (K := K) (σ := [some (V.ref a), some (.ref F), some vp, x3, x4, x5]) (H := H') (b := (flat 4 p.body).flatMap chg) (f := fun _ => true) (g0 := Da.s) (e := fun x => pdd (p.name, x)) (tt := tYes) (vs := [5]) (tg := gName 5) (te := tTup (tCons (tOp (rIxT K) (tVar 2) (tC (.int 0))) (tCons (tVar 5) tNil))) (ep_LR (ef_callR (sp := fun vs H Q _ => ∃ (v : V) (p : Prc), vs = [v] ∧ Rep K H v p.da ∧ Wb 4 p.body ∧ RetLR K (((flat 4 p.body).flatMap chg).map Da.s) H Q) (E := E0) (ea_cons (ev_var (i := 2) rfl) ea_nil) fun H2 e2 Q' hQ E' => ⟨vp, p, rfl, hvp0.ex e2, (hC.ok p hpC).wb, hQ⟩)) (by omega) (fun i x v' Hb hb eb rb => ⟨_, tgt_name, rfl, et_yes, fun _ => er_tup (er_cons (ev_ixR (i := 0) (ev_var rfl) (hvp.ex eb) rfl) (er_cons (ep_R (ev_var rfl) rb) er_nil)) (by simp [pd])⟩)
      rw [filter_true] at hcomp
      refine s_asgR (ef_catB (ep_lst (ev_var rfl) hf r) (ep_LR hcomp) (by rw [List.length_map]; omega)) fun F' us' H2 hF' e2 h2 r2 => ⟨F', us', e.trans e2, fresh_back e hF', ⟨_, _, _, _, rfl⟩, h2, r2⟩
    · rintro σ' H' ⟨F, us, e, hF, ⟨x2, x3, x4, x5, rfl⟩, hf, r⟩
      rw [List.nil_append] at r
      have emv : (C.flatMap fun p => ((flat 4 p.body).flatMap chg).map fun x => pdd (p.name, x)) = (C.flatMap fun p => ((flat 4 p.body).flatMap chg).map fun x => (p.name, x)).map pdd := by
        rw [List.map_flatMap]
        congr 1
        funext p
        rw [List.map_map]
        rfl
      rw [emv] at r
      have hmvl : (C.flatMap fun p => ((flat 4 p.body).flatMap chg).map fun x => (p.name, x)).length ≤ 28080 := by
        refine Nat.le_trans (flatMap_len _ 4680 _ fun p hp => ?_) (Nat.le_trans (Nat.mul_le_mul_right 4680 h6) (by decide))
        rw [List.length_map]
        exact hchg p hp
      have g0 : GoodM C (C.flatMap fun p => ((flat 4 p.body).flatMap chg).map fun x => (p.name, x)) := by
        refine ⟨fun q hq => ?_, fun p hp x hx => List.mem_flatMap.mpr ⟨p, hp, List.mem_map.mpr ⟨x, hx, rfl⟩⟩⟩
        obtain ⟨p, hp, hq⟩ := List.mem_flatMap.mp hq
        obtain ⟨x, hx, rfl⟩ := List.mem_map.mp hq
        exact .base hp hx
      generalize (C.flatMap fun p => ((flat 4 p.body).flatMap chg).map fun x => (p.name, x)) = mv0 at r hmvl g0
      refine q_forR1 (ea_cons ev_c ea_nil) ⟨by decide, by decide⟩ (fun i σ' H' => ∃ F us mv x2 x3 x4 x5, σ' = [some (.ref a), some (.ref F), x2, x3, x4, x5] ∧ Ex H H' ∧ H F = none ∧ H' F = some (.lst us) ∧ Reps K H' us (mv.map pdd) ∧ GoodM C mv ∧ missL C mv + i ≤ 18 ∧ mv.length ≤ 28080 + i * 42120)
        (fun H2 e2 => ⟨F, us, mv0, _, _, _, _, rfl, e.trans e2, hF, e2 _ _ hf, r.ex e2, g0, missL_le hC _, by omega⟩) ?_ ?_
      · rintro i σ2 H2 hi ⟨F, us, mv, x2, x3, x4, x5, rfl, e2, hF2, hf2, r2, g2, hm2, hl2⟩
        show tSeq _ _ _ [some (V.ref a), some (.ref F), x2, some (.int (i : Int)), x4, x5] H2
        refine q_asgR (ef_callRA (PA := fun vs H => ∃ v w, vs = [v, w] ∧ Rep K H v (coreDa C) ∧ IsLR K (mv.map pdd) w H) (fun H3 e3 Q3 q3 => ?_) fun vs H3 e3 ⟨v1, w1, hvs, k1, k2⟩ Q' hQ E' => ⟨v1, w1, C, mv, hvs, k1, hC, k2, hQ⟩) fun M usM H3 hM e3 h3 r3 => ?_
        · refine (ea_cons (ev_var (σ := [some (V.ref a), some (.ref F), x2, some (.int (i : Int)), x4, x5]) (i := 0) rfl) (ea_cons (ev_var (i := 1) rfl) ea_nil)) H3 e3 _ fun H4 e4 => ?_
          exact q3 _ H4 e4 ⟨_, _, rfl, hv0.ex (e2.trans (e3.trans e4)), ⟨F, us, rfl, (e3.trans e4) _ _ hf2, r2.ex (e3.trans e4)⟩⟩
        have hlist : EvP (tVar 4) [some (V.ref a), some (V.ref F), x2, some (.int (i : Int)), some (.ref M), x5] H3 (IsLR K (((hon C mv).map pd).map td)) := by
          rw [← pdd_map]
          exact ep_lst (ev_var rfl) h3 r3
        refine q_when (et_test (ev_eqNil hlist fun k hk x hx => ?_)) (fun hB H4 e4 => ?_) (fun hB H4 e4 => ?_)
        · obtain ⟨q, hq, rfl⟩ := List.mem_map.mp hk
          obtain ⟨p, c, as, ts, o, it, ar, hp, hs, hz, h1, h2, rfl, h3⟩ := hon_mem.mp hq
          rcases List.mem_cons.mp hx with rfl | hx
          · exact hC.no p hp
          · rw [List.mem_singleton.mp hx]
            obtain ⟨_, _, _, _, _, hav⟩ := zip_kind (hC.ok p hp) hC hs hz ((zip_isA (hC.ok p hp) hC hs hz).trans h1)
            exact (hC.ok p hp).so _ (List.mem_append_right _ hav)
        · have hnil : hon C mv = [] := by
            have := List.isEmpty_iff.mp hB
            exact List.map_eq_nil_iff.mp this
          refine s_ret (ev_var rfl) fun H5 e5 => q F us H5 mv hF2 ((e2.trans e3).trans (e4.trans e5)) ((e3.trans (e4.trans e5)) _ _ hf2) (r2.ex (e3.trans (e4.trans e5))) (moves_iff hC g2 hnil)
        · have hne : hon C mv ≠ [] := fun z => by rw [z] at hB; cases hB
          have hl3 := hon_len (mv := mv) hC
          have hms := miss_step hC hne
          have e34 := e3.trans e4
          refine s_asgR (ef_catB (ep_lst (ev_var rfl) (e34 _ _ hf2) (r2.ex e34)) (ep_lst (ev_var rfl) (e4 _ _ h3) (r3.ex e4)) (by rw [List.length_map, List.length_map]; omega)) fun F' us' H5 hF' e5 h5 r5 => ?_
          refine ⟨F', us', mv ++ hon C mv, _, _, _, _, rfl, (e2.trans e34).trans e5, fresh_back (e2.trans e34) hF', h5, by rw [List.map_append]; exact r5, good_step hC g2, by omega, by rw [List.length_append]; omega⟩
      · rintro σ2 H2 ⟨F, us, mv, x2, x3, x4, x5, rfl, e2, hF2, hf2, r2, g2, hm2, hl2⟩
        exfalso
        have : (60 : Int).toNat = 60 := rfl
        omega
end
end K88

set_option maxHeartbeats 4000000
namespace K88
open PySem L2 Evl
/-! ### who reaches whom -/
def nms (C : List Prc) : List Str := C.map Prc.name
def callsOf (C : List Prc) (n : Str) : List Str := ((C.find? fun q => decide (q.name = n)).map Prc.calls).getD []
def Edg (C : List Prc) (u v : Str) : Prop := v ∈ callsOf C u
inductive Rc (C : List Prc) (u : Str) : Str → Prop
  | refl : u ∈ nms C → Rc C u u
  | step {v x : Str} : Rc C u v → Edg C v x → Rc C u x
noncomputable def rcB (C : List Prc) (u v : Str) : Bool := @decide (Rc C u v) (Classical.propDecidable _)
theorem rcB_iff {C : List Prc} {u v : Str} : rcB C u v = true ↔ Rc C u v := @decide_eq_true_iff _ (Classical.propDecidable _)
theorem callsOf_of {C : List Prc} (hC : OkC C) {p : Prc} (hp : p ∈ C) : callsOf C p.name = p.calls := by unfold callsOf; rw [find_of hC hp]; rfl
theorem calls_nm {C : List Prc} (hC : OkC C) {u v : Str} (h : Edg C u v) : v ∈ nms C := by
  unfold Edg callsOf at h
  cases hf : C.find? fun q => decide (q.name = u) with
  | none => rw [hf] at h; cases h
  | some p =>
    rw [hf] at h
    have hp := (mem_of_find hf).1
    have h2 : v ∈ p.calls := h
    unfold Prc.calls at h2
    obtain ⟨s, hs, rfl⟩ := List.mem_map.mp h2
    obtain ⟨hs1, hs2⟩ := List.mem_filter.mp hs
    cases s with
    | call c as ts o =>
      obtain ⟨_, _, q, hq, e, _⟩ := (hC.ok p hp).ok _ hs1
      exact List.mem_map.mpr ⟨q, hq, e⟩
    | _ => cases hs2
theorem Rc.nm {C : List Prc} (hC : OkC C) {u v : Str} (h : Rc C u v) : v ∈ nms C := by
  cases h with
  | refl h => exact h
  | step _ e => exact calls_nm hC e
theorem Rc.nm1 {C : List Prc} {u v : Str} (h : Rc C u v) : u ∈ nms C := by
  induction h with
  | refl h => exact h
  | step _ _ ih => exact ih
theorem Rc.trans {C : List Prc} {u v x : Str} (h : Rc C u v) (h' : Rc C v x) : Rc C u x := by
  induction h' with
  | refl _ => exact h
  | step _ e ih => exact .step ih e
theorem nms_nodup {C : List Prc} (hC : OkC C) : (nms C).Nodup := by
  unfold nms
  rw [List.Nodup, List.pairwise_map]
  refine hC.srt.imp fun {p q} h e => ?_
  rw [e, ltS_irrefl] at h
  cases h
theorem nms_srt {C : List Prc} (hC : OkC C) : (nms C).Pairwise fun x y => ltS x y = true := List.pairwise_map.mpr hC.srt
theorem nms_len {C : List Prc} : (nms C).length = C.length := List.length_map ..
/-! short walks -/
def Wk (C : List Prc) : Nat → Str → Str → Prop
  | 0, u, v => u = v
  | k + 1, u, v => Wk C k u v ∨ ∃ m, Edg C u m ∧ Wk C k m v
theorem Wk.mono {C : List Prc} : ∀ {k j : Nat} {u v : Str}, k ≤ j → Wk C k u v → Wk C j u v
  | k, 0, u, v, h, w => by obtain rfl : k = 0 := by omega
                           exact w
  | k, j + 1, u, v, h, w => by
    by_cases e : k = j + 1
    · subst e; exact w
    · exact .inl (Wk.mono (by omega) w)
theorem Wk.split {C : List Prc} : ∀ {a b : Nat} {u v : Str}, Wk C (a + b) u v → ∃ m, Wk C a u m ∧ Wk C b m v
  | 0, b, u, v, h => ⟨u, rfl, by rw [Nat.zero_add] at h; exact h⟩
  | a + 1, b, u, v, h => by
    rw [show a + 1 + b = (a + b) + 1 by omega] at h
    rcases h with h | ⟨m, e, h⟩
    · obtain ⟨x, h1, h2⟩ := Wk.split h
      exact ⟨x, .inl h1, h2⟩
    · obtain ⟨x, h1, h2⟩ := Wk.split h
      exact ⟨x, .inr ⟨m, e, h1⟩, h2⟩
inductive InW (C : List Prc) (A : List Str) : Str → Str → Prop
  | refl {u : Str} : u ∈ A → InW C A u u
  | head {u m v : Str} : u ∈ A → Edg C u m → InW C A m v → InW C A u v
theorem InW.start {C : List Prc} {A : List Str} {u v : Str} (h : InW C A u v) : u ∈ A := by cases h <;> assumption
theorem InW.last {C : List Prc} {A : List Str} {u x v : Str} (h : InW C A x v) : InW C (A.erase u) x v ∨ u = v ∨ ∃ m, Edg C u m ∧ InW C (A.erase u) m v := by
  induction h with
  | @refl x h =>
    by_cases e : x = u
    · exact .inr (.inl e.symm)
    · exact .inl (.refl ((List.mem_erase_of_ne e).mpr h))
  | @head x m v h e _ ih =>
    rcases ih with ih | ih
    · by_cases ex : x = u
      · exact .inr (.inr ⟨m, ex ▸ e, ih⟩)
      · exact .inl (.head ((List.mem_erase_of_ne ex).mpr h) e ih)
    · exact .inr ih
theorem InW.short {C : List Prc} : ∀ (n : Nat) (A : List Str) (u v : Str), A.length = n → A.Nodup → InW C A u v → ∃ k, k + 1 ≤ n ∧ Wk C k u v
  | 0, A, u, v, hl, _, h => by
    have := h.start
    rw [List.length_eq_zero_iff.mp hl] at this
    cases this
  | n + 1, A, u, v, hl, nd, h => by
    have hu := h.start
    have hl2 : (A.erase u).length = n := by rw [List.length_erase_of_mem hu, hl]; rfl
    rcases h.last (u := u) with h | h | ⟨m, e, h⟩
    · exact absurd h.start (nd.not_mem_erase)
    · exact ⟨0, by omega, h⟩
    · obtain ⟨k, hk, w⟩ := InW.short n (A.erase u) m v hl2 (nd.erase u) h
      exact ⟨k + 1, by omega, .inr ⟨m, e, w⟩⟩
theorem InW.snoc {C : List Prc} {A : List Str} {u v x : Str} (h : InW C A u v) (e : Edg C v x) (hx : x ∈ A) : InW C A u x := by
  induction h with
  | refl hu => exact .head hu e (.refl hx)
  | head hu e1 _ ih => exact .head hu e1 (ih e)
theorem Rc.wk {C : List Prc} (hC : OkC C) {u v : Str} (h : Rc C u v) : Wk C C.length u v := by
  have hin : InW C (nms C) u v := by
    induction h with
    | refl h => exact .refl h
    | step _ e ih => exact ih.snoc e (calls_nm hC e)
  obtain ⟨k, hk, w⟩ := InW.short (nms C).length (nms C) u v rfl (nms_nodup hC) hin
  rw [nms_len] at hk
  exact w.mono (by omega)
/-! the relation squared -/
def SndP (C : List Prc) (ps : List (Str × Str)) : Prop := ∀ q, q ∈ ps → Rc C q.1 q.2
def AllP (C : List Prc) (k : Nat) (ps : List (Str × Str)) : Prop := ∀ u v, u ∈ nms C → Wk C k u v → (u, v) ∈ ps
theorem edg_rc {C : List Prc} {u v : Str} (hu : u ∈ nms C) (h : Edg C u v) : Rc C u v := .step (.refl hu) h
theorem wk_nm {C : List Prc} (hC : OkC C) : ∀ {k : Nat} {u v : Str}, u ∈ nms C → Wk C k u v → v ∈ nms C
  | 0, u, v, h, w => by cases w; exact h
  | k + 1, u, v, h, w => by
    rcases w with w | ⟨m, e, w⟩
    · exact wk_nm hC h w
    · exact wk_nm hC (calls_nm hC e) w
theorem sq_snd {C : List Prc} {ps qs : List (Str × Str)} (h : SndP C ps) (hq : ∀ q, q ∈ qs → ∃ m, (q.1, m) ∈ ps ∧ (m, q.2) ∈ ps) : SndP C qs := fun q hm => by
  obtain ⟨m, h1, h2⟩ := hq q hm
  exact (h _ h1).trans (h _ h2)
theorem sq_all {C : List Prc} (hC : OkC C) {k : Nat} {ps qs : List (Str × Str)} (h : AllP C k ps) (hq : ∀ u v m, (u, m) ∈ ps → (m, v) ∈ ps → (u, v) ∈ qs) : AllP C (k + k) qs := fun u v hu w => by
  obtain ⟨m, h1, h2⟩ := w.split
  exact hq u v m (h u m hu h1) (h m v (wk_nm hC hu h1) h2)
theorem two_pow_ge : ∀ n : Nat, n ≤ 2 ^ n
  | 0 => by decide
  | n + 1 => by
    have := two_pow_ge n
    have h2 : 1 ≤ 2 ^ n := Nat.one_le_two_pow
    rw [Nat.pow_succ]
    omega
theorem all_rc {C : List Prc} (hC : OkC C) {ps : List (Str × Str)} (h1 : SndP C ps) (h2 : AllP C (2 ^ C.length) ps) (u v : Str) : (u, v) ∈ ps ↔ Rc C u v :=
  ⟨fun h => h1 _ h, fun h => h2 u v h.nm1 ((h.wk hC).mono (two_pow_ge _))⟩
/-! ### the work list -/
def addC (acc : List Str) (c : Str) : List Str := if c ∈ acc then acc else acc ++ [c]
def stepR (C : List Prc) (xs : List Str) (n : Str) : List Str := (callsOf C n).foldl addC xs
def reachN (C : List Prc) : Nat → List Str → Nat → List Str
  | 0, xs, _ => xs
  | f + 1, xs, i => match xs[i]? with
    | none => xs
    | some n => reachN C f (stepR C xs n) (i + 1)
def reachL (C : List Prc) (n : Str) : List Str := reachN C 7 [n] 0
theorem addC_fold : ∀ (cs acc : List Str), acc.Nodup → (cs.foldl addC acc).Nodup ∧ (∀ x, x ∈ cs.foldl addC acc ↔ x ∈ acc ∨ x ∈ cs) ∧ ∃ r, cs.foldl addC acc = acc ++ r
  | [], acc, h => ⟨h, fun x => by simp, [], by simp⟩
  | c :: cs, acc, h => by
    rw [List.foldl_cons]
    have h1 : (addC acc c).Nodup := by
      unfold addC
      split
      · exact h
      · rename_i hc
        exact List.nodup_append.mpr ⟨h, by simp, fun a ha b hb e => hc (by rw [List.mem_singleton.mp hb] at e; exact e ▸ ha)⟩
    have h2 : ∀ x, x ∈ addC acc c ↔ x ∈ acc ∨ x = c := fun x => by
      unfold addC
      split
      · rename_i hc
        exact ⟨.inl, fun h => h.elim id fun e => e ▸ hc⟩
      · simp
    have h3 : ∃ r, addC acc c = acc ++ r := by
      unfold addC
      split
      · exact ⟨[], by simp⟩
      · exact ⟨[c], rfl⟩
    obtain ⟨i1, i2, r, i3⟩ := addC_fold cs (addC acc c) h1
    obtain ⟨r0, h3⟩ := h3
    refine ⟨i1, fun x => ?_, r0 ++ r, by rw [i3, h3, List.append_assoc]⟩
    rw [i2, h2, List.mem_cons, or_assoc]
structure RchS (C : List Prc) (n : Str) (xs : List Str) (i : Nat) : Prop where
  nd : xs.Nodup
  snd : ∀ x, x ∈ xs → Rc C n x
  hd : n ∈ xs
  le : i ≤ xs.length
  cl : ∀ j x, j < i → xs[j]? = some x → ∀ c, c ∈ callsOf C x → c ∈ xs
theorem nodup_sub_len {A B : List Str} (h : A.Nodup) (hs : ∀ x, x ∈ A → x ∈ B) : A.length ≤ B.length := by
  induction A generalizing B with
  | nil => exact Nat.zero_le _
  | cons a A ih =>
    obtain ⟨h1, h2⟩ := List.nodup_cons.mp h
    have ha := hs a List.mem_cons_self
    have := ih (B := B.erase a) h2 fun x hx => (List.mem_erase_of_ne (fun e : x = a => h1 (e ▸ hx))).mpr (hs x (List.mem_cons_of_mem _ hx))
    rw [List.length_erase_of_mem ha] at this
    have hp := List.length_pos_of_mem ha
    rw [List.length_cons]
    omega
theorem RchS.len {C : List Prc} (hC : OkC C) {n : Str} {xs : List Str} {i : Nat} (h : RchS C n xs i) : xs.length ≤ 6 := by
  have := nodup_sub_len h.nd fun x hx => (h.snd x hx).nm hC
  rw [nms_len] at this
  exact Nat.le_trans this hC.n6
theorem rch_start {C : List Prc} {n : Str} (hn : n ∈ nms C) : RchS C n [n] 0 := ⟨by simp, fun x hx => by rw [List.mem_singleton.mp hx]; exact .refl hn, by simp, Nat.zero_le _, fun j x hj => absurd hj (Nat.not_lt_zero _)⟩
theorem rch_step {C : List Prc} {n m : Str} {xs : List Str} {i : Nat} (h : RchS C n xs i) (hm : xs[i]? = some m) : RchS C n (stepR C xs m) (i + 1) := by
  obtain ⟨h1, h2, r, h3⟩ := addC_fold (callsOf C m) xs h.nd
  have hil := (List.getElem?_eq_some_iff.mp hm).1
  have hr := h.snd m (List.mem_of_getElem? hm)
  refine ⟨h1, fun x hx => ?_, (h2 n).mpr (.inl h.hd), ?_, fun j x hj hx c hc => ?_⟩
  · rcases (h2 x).mp hx with h4 | h4
    · exact h.snd x h4
    · exact .step hr h4
  · unfold stepR
    rw [h3, List.length_append]
    omega
  · have hjl : j < xs.length := by omega
    unfold stepR at hx
    rw [h3, List.getElem?_append_left hjl] at hx
    refine (h2 c).mpr ?_
    by_cases e : j = i
    · subst e
      rw [hm] at hx
      cases hx
      exact .inr hc
    · exact .inl (h.cl j x (by omega) hx c hc)
theorem rch_end {C : List Prc} {n : Str} {xs : List Str} (h : RchS C n xs xs.length) (x : Str) : x ∈ xs ↔ Rc C n x := by
  refine ⟨h.snd x, fun hr => ?_⟩
  induction hr with
  | refl _ => exact h.hd
  | @step v x _ e ih =>
    obtain ⟨j, hj, ej⟩ := List.getElem_of_mem ih
    exact h.cl j v hj (by rw [List.getElem?_eq_getElem hj, ej]) x e
theorem reachN_ok {C : List Prc} (hC : OkC C) {n : Str} : ∀ (f : Nat) (xs : List Str) (i : Nat), RchS C n xs i → 7 ≤ f + i → RchS C n (reachN C f xs i) (reachN C f xs i).length
  | 0, xs, i, h, hf => by
    have h1 := h.len hC
    have h2 := h.le
    omega
  | f + 1, xs, i, h, hf => by
    rw [reachN]
    cases hm : xs[i]? with
    | none =>
      have h1 := List.getElem?_eq_none_iff.mp hm
      have h2 := h.le
      have e : i = xs.length := by omega
      subst e
      exact h
    | some m => exact reachN_ok hC f _ _ (rch_step h hm) (by omega)
theorem reachL_iff {C : List Prc} (hC : OkC C) {n : Str} (hn : n ∈ nms C) (x : Str) : x ∈ reachL C n ↔ Rc C n x := rch_end (reachN_ok hC 7 [n] 0 (rch_start hn) (by omega)) x
theorem reachL_nd {C : List Prc} (hC : OkC C) {n : Str} (hn : n ∈ nms C) : (reachL C n).Nodup := (reachN_ok hC 7 [n] 0 (rch_start hn) (by omega)).nd
/-! ### lists in order -/
theorem ord_unique {α : Type} (r : α → α → Bool) (irr : ∀ x, r x x = false) (tr : ∀ {x y z}, r x y = true → r y z = true → r x z = true) : ∀ {xs ys : List α}, xs.Pairwise (fun x y => r x y = true) → ys.Pairwise (fun x y => r x y = true) → (∀ x, x ∈ xs ↔ x ∈ ys) → xs = ys
  | [], [], _, _, _ => rfl
  | [], y :: ys, _, _, h => absurd ((h y).mpr List.mem_cons_self) (by simp)
  | x :: xs, [], _, _, h => absurd ((h x).mp List.mem_cons_self) (by simp)
  | x :: xs, y :: ys, h1, h2, h => by
    obtain ⟨a1, a2⟩ := List.pairwise_cons.mp h1
    obtain ⟨b1, b2⟩ := List.pairwise_cons.mp h2
    have exy : x = y := by
      rcases List.mem_cons.mp ((h x).mp List.mem_cons_self) with e | hx
      · exact e
      · rcases List.mem_cons.mp ((h y).mpr List.mem_cons_self) with e | hy
        · exact e.symm
        · have := tr (b1 x hx) (a1 y hy)
          rw [irr] at this
          cases this
    subst exy
    rw [ord_unique r irr tr a2 b2 fun z => ?_]
    have hz := h z
    rw [List.mem_cons, List.mem_cons] at hz
    constructor
    · intro hm
      rcases hz.mp (.inr hm) with e | h3
      · subst e
        have := a1 z hm
        rw [irr] at this
        cases this
      · exact h3
    · intro hm
      rcases hz.mpr (.inr hm) with e | h3
      · subst e
        have := b1 z hm
        rw [irr] at this
        cases this
      · exact h3
theorem srt_unique {xs ys : List Str} (h1 : xs.Pairwise (fun x y => ltS x y = true)) (h2 : ys.Pairwise (fun x y => ltS x y = true)) (h : ∀ x, x ∈ xs ↔ x ∈ ys) : xs = ys := ord_unique ltS ltS_irrefl ltS_trans h1 h2 h
theorem ltS_nn {x y z : Str} (h1 : ltS y x = false) (h2 : ltS z y = false) : ltS z x = false := by
  cases e : ltS z x with
  | false => rfl
  | true =>
    cases e2 : ltS x y with
    | true => rw [ltS_trans e e2] at h2; cases h2
    | false => rw [ltS_tri e2 h1, h2] at e; cases e
theorem sorted_pw : ∀ {ys : List Str}, PyProof.Rows.sortedS ys = true → ys.Pairwise (fun x y => ltS y x = false)
  | [], _ => .nil
  | x :: r, h => by
    have key : ∀ (r : List Str) (p : Str), PyProof.Rows.risingS p r = true → (p :: r).Pairwise (fun x y => ltS y x = false) := fun r => by
      induction r with
      | nil => exact fun p _ => List.pairwise_singleton _ _
      | cons y r ih =>
        intro p hp
        rw [PyProof.Rows.risingS, Bool.and_eq_true, PyProof.Rows.ltCps_eq, Bool.not_eq_true'] at hp
        have h1 : ltS y p = false := hp.1
        have h2 := ih y hp.2
        refine List.pairwise_cons.mpr ⟨fun z hz => ?_, h2⟩
        rcases List.mem_cons.mp hz with rfl | hz
        · exact h1
        · exact ltS_nn h1 ((List.pairwise_cons.mp h2).1 z hz)
    exact key r x h
theorem strict_of {ys : List Str} (h : ys.Pairwise (fun x y => ltS y x = false)) (nd : ys.Nodup) : ys.Pairwise (fun x y => ltS x y = true) := by
  refine List.Pairwise.imp₂ (fun x y h1 h2 => ?_) h nd
  cases e : ltS x y with
  | true => rfl
  | false => exact absurd (ltS_tri e h1) h2
theorem filter_leX {α : Type} (f g : α → Bool) : ∀ l : List α, (∀ x, x ∈ l → f x = true → g x = true) → (l.filter f).length ≤ (l.filter g).length
  | [], _ => Nat.le_refl _
  | a :: l, h => by
    have ih := filter_leX f g l fun x hx => h x (List.mem_cons_of_mem _ hx)
    have h1 := h a List.mem_cons_self
    rw [List.filter_cons, List.filter_cons]
    cases hf : f a with
    | true => rw [h1 hf, if_pos rfl, if_pos rfl, List.length_cons, List.length_cons]; omega
    | false =>
      rw [if_neg (by decide)]
      split
      · rw [List.length_cons]; omega
      · exact ih
theorem filter_ltX {α : Type} (f g : α → Bool) : ∀ l : List α, (∀ x, x ∈ l → f x = true → g x = true) → (∃ x, x ∈ l ∧ f x = false ∧ g x = true) → (l.filter f).length < (l.filter g).length
  | [], _, ⟨x, h, _⟩ => absurd h (by simp)
  | a :: l, h, ⟨x, hx, h1, h2⟩ => by
    have ihl := filter_leX f g l fun x hx => h x (List.mem_cons_of_mem _ hx)
    rw [List.filter_cons, List.filter_cons]
    rcases List.mem_cons.mp hx with rfl | hx
    · rw [h1, h2, if_neg (by decide), if_pos rfl, List.length_cons]; omega
    · have ih := filter_ltX f g l (fun x hx => h x (List.mem_cons_of_mem _ hx)) ⟨x, hx, h1, h2⟩
      have h3 := h a List.mem_cons_self
      cases hf : f a with
      | true => rw [h3 hf, if_pos rfl, if_pos rfl, List.length_cons, List.length_cons]; omega
      | false =>
        rw [if_neg (by decide)]
        split
        · rw [List.length_cons]; omega
        · exact ih
/-! ### groups -/
noncomputable def grp (C : List Prc) (n : Str) : List Str := (nms C).filter fun x => rcB C n x && rcB C x n
theorem mem_grp {C : List Prc} (hC : OkC C) {n x : Str} : x ∈ grp C n ↔ Rc C n x ∧ Rc C x n := by
  unfold grp
  rw [List.mem_filter, Bool.and_eq_true, rcB_iff, rcB_iff]
  exact ⟨fun h => h.2, fun h => ⟨h.1.nm hC, h⟩⟩
theorem grp_self {C : List Prc} (hC : OkC C) {n : Str} (h : n ∈ nms C) : n ∈ grp C n := (mem_grp hC).mpr ⟨.refl h, .refl h⟩
theorem grp_srt {C : List Prc} (hC : OkC C) (n : Str) : (grp C n).Pairwise fun x y => ltS x y = true := (nms_srt hC).filter _
theorem grp_same {C : List Prc} (hC : OkC C) {n m : Str} (h : m ∈ grp C n) : grp C m = grp C n := by
  obtain ⟨h1, h2⟩ := (mem_grp hC).mp h
  refine srt_unique (grp_srt hC _) (grp_srt hC _) fun x => ?_
  rw [mem_grp hC, mem_grp hC]
  exact ⟨fun ⟨a, b⟩ => ⟨h1.trans a, b.trans h2⟩, fun ⟨a, b⟩ => ⟨h2.trans a, b.trans h1⟩⟩
noncomputable def isHd (C : List Prc) (p : Prc) : Bool := decide ((grp C p.name).head? = some p.name)
noncomputable def gls (C : List Prc) : List (List Str) := (C.filter (isHd C)).map fun p => grp C p.name
theorem hd_cons {C : List Prc} {p : Prc} (h : isHd C p = true) : ∃ r, grp C p.name = p.name :: r := by
  have := of_decide_eq_true h
  cases hg : grp C p.name with
  | nil => rw [hg] at this; cases this
  | cons a r =>
    rw [hg] at this
    have e : a = p.name := Option.some.inj this
    exact ⟨r, by rw [e]⟩
/-- a group's head -/
theorem has_hd {C : List Prc} (hC : OkC C) {p : Prc} (hp : p ∈ C) : ∃ q, q ∈ C ∧ isHd C q = true ∧ grp C q.name = grp C p.name ∧ (q = p ∨ ltS q.name p.name = true) := by
  have hself := grp_self hC (List.mem_map_of_mem (f := Prc.name) hp)
  cases hg : grp C p.name with
  | nil => rw [hg] at hself; cases hself
  | cons a r =>
    have ha : a ∈ grp C p.name := by rw [hg]; exact List.mem_cons_self
    obtain ⟨q, hq, e⟩ := List.mem_map.mp (((mem_grp hC).mp ha).1.nm hC)
    have hsame := grp_same hC ha
    refine ⟨q, hq, ?_, by rw [e, hsame, hg], ?_⟩
    · unfold isHd
      rw [e, hsame, hg]
      exact decide_eq_true rfl
    · rw [hg] at hself
      rcases List.mem_cons.mp hself with e2 | h2
      · left
        have h3 := find_of hC hq
        have h4 := find_of hC hp
        rw [e, ← e2, h4] at h3
        exact (Option.some.inj h3).symm
      · right
        have := grp_srt hC p.name
        rw [hg] at this
        rw [e]
        exact (List.pairwise_cons.mp this).1 _ h2
theorem mem_gls {C : List Prc} (hC : OkC C) {g : List Str} : g ∈ gls C ↔ ∃ p, p ∈ C ∧ g = grp C p.name := by
  unfold gls
  rw [List.mem_map]
  constructor
  · rintro ⟨p, hp, rfl⟩
    exact ⟨p, (List.mem_filter.mp hp).1, rfl⟩
  · rintro ⟨p, hp, rfl⟩
    obtain ⟨q, hq, h1, h2, _⟩ := has_hd hC hp
    exact ⟨q, List.mem_filter.mpr ⟨hq, h1⟩, h2⟩
theorem gls_srt {C : List Prc} (hC : OkC C) : (gls C).Pairwise fun x y => lex8 x y = true := by
  unfold gls
  rw [List.pairwise_map]
  refine List.Pairwise.imp_of_mem (fun {p q} hp hq h => ?_) (hC.srt.filter (isHd C))
  obtain ⟨r, e⟩ := hd_cons (List.mem_filter.mp hp).2
  obtain ⟨r', e'⟩ := hd_cons (List.mem_filter.mp hq).2
  rw [e, e', lex8, if_neg (fun z => by rw [z, ltS_irrefl] at h; cases h)]
  exact h
theorem gls_nodup {C : List Prc} (hC : OkC C) : (gls C).Nodup := (gls_srt hC).imp fun {x y} h e => by rw [e, lex8_irrefl] at h; cases h
theorem gls_of_sorted {C : List Prc} (hC : OkC C) {ks : List (List Str)} (h1 : ks.Pairwise fun x y => lex8 y x = false) (nd : ks.Nodup) (h : ∀ k, k ∈ ks ↔ ∃ p, p ∈ C ∧ k = grp C p.name) : ks = gls C := by
  refine ord_unique lex8 lex8_irrefl lex8_trans (List.Pairwise.imp₂ (fun x y h2 h3 => ?_) h1 nd) (gls_srt hC) fun k => by rw [h k, mem_gls hC]
  cases e : lex8 x y with
  | true => rfl
  | false => exact absurd (lex8_tri e h2) h3
noncomputable def leftN (C : List Prc) (i : Nat) : List (List Str) := ((C.take i).filter (isHd C)).map fun p => grp C p.name
theorem left_step {C : List Prc} (hC : OkC C) {i : Nat} {p : Prc} (hp : C[i]? = some p) : leftN C (i + 1) = if grp C p.name ∈ leftN C i then leftN C i else leftN C i ++ [grp C p.name] := by
  have hpC := List.mem_of_getElem? hp
  have hil := (List.getElem?_eq_some_iff.mp hp).1
  have hiv := (List.getElem?_eq_some_iff.mp hp).2
  have hnext : leftN C (i + 1) = leftN C i ++ (if isHd C p = true then [grp C p.name] else []) := by
    unfold leftN
    rw [take_succ_of hp, List.filter_append, List.map_append]
    cases h : isHd C p with
    | true => simp [h]
    | false => simp [h]
  have before : ∀ q, q ∈ C → ltS q.name p.name = true → q ∈ C.take i := fun q hq hlt => by
    obtain ⟨j, hj, e⟩ := List.getElem_of_mem hq
    by_cases hji : j < i
    · exact List.mem_take_iff_getElem.mpr ⟨j, by omega, e⟩
    · exfalso
      by_cases e2 : j = i
      · subst e2
        rw [← e, ← hiv, ltS_irrefl] at hlt
        cases hlt
      · have := List.pairwise_iff_getElem.mp hC.srt i j hil hj (by omega)
        rw [e, hiv] at this
        rw [ltS_asym this] at hlt
        cases hlt
  rw [hnext]
  cases h : isHd C p with
  | true =>
    rw [if_pos rfl, if_neg]
    intro hm
    unfold leftN at hm
    obtain ⟨q, hq, e⟩ := List.mem_map.mp hm
    obtain ⟨hq1, hq2⟩ := List.mem_filter.mp hq
    obtain ⟨r, e1⟩ := hd_cons h
    obtain ⟨r', e2⟩ := hd_cons hq2
    rw [e1, e2] at e
    have en : q.name = p.name := (List.cons.inj e).1
    obtain ⟨j, hj, e5⟩ := List.getElem_of_mem hq1
    have hji : j < i := by rw [List.length_take] at hj; omega
    have hjC : j < C.length := by omega
    have := List.pairwise_iff_getElem.mp hC.srt j i hjC hil hji
    rw [List.getElem_take] at e5
    rw [e5, hiv, en, ltS_irrefl] at this
    cases this
  | false =>
    rw [if_neg (by decide), List.append_nil, if_pos]
    obtain ⟨q, hq, h1, h2, h3⟩ := has_hd hC hpC
    rcases h3 with rfl | h3
    · rw [h] at h1; cases h1
    · unfold leftN
      exact List.mem_map.mpr ⟨q, List.mem_filter.mpr ⟨before q hq h3, h1⟩, h2⟩
/-! ### the order of the groups -/
noncomputable def rdy (C : List Prc) (placed : List Str) (g : List Str) : Bool := (nms C).all fun x => !rcB C (g.headD "") x || (decide (x ∈ placed) || decide (x ∈ g))
theorem rdy_iff {C : List Prc} (hC : OkC C) {placed g : List Str} : rdy C placed g = true ↔ ∀ x, Rc C (g.headD "") x → x ∈ placed ∨ x ∈ g := by
  unfold rdy
  rw [List.all_eq_true]
  constructor
  · intro h x hx
    have := h x (hx.nm hC)
    rw [rcB_iff.mpr hx] at this
    simpa using this
  · intro h x _
    cases e : rcB C (g.headD "") x with
    | false => rfl
    | true =>
      have := h x (rcB_iff.mp e)
      simpa using this
noncomputable def topo (C : List Prc) : Nat → List (List Str) → List Str → List (List Str)
  | 0, _, _ => []
  | n + 1, waiting, placed => match waiting.find? (rdy C placed) with
    | none => []
    | some g => g :: topo C n (waiting.erase g) (placed ++ g)
noncomputable def torder (C : List Prc) : List (List Str) := topo C (gls C).length (gls C) []
structure WInv (C : List Prc) (waiting : List (List Str)) (placed : List Str) : Prop where
  sub : ∀ g, g ∈ waiting → g ∈ gls C
  nd : waiting.Nodup
  all : ∀ g, g ∈ gls C → g ∈ waiting ∨ ∀ x, x ∈ g → x ∈ placed
theorem winv_start {C : List Prc} (hC : OkC C) : WInv C (gls C) [] := ⟨fun _ h => h, gls_nodup hC, fun _ h => .inl h⟩
theorem winv_step {C : List Prc} {waiting : List (List Str)} {placed g : List Str} (h : WInv C waiting placed) (hg : g ∈ waiting) : WInv C (waiting.erase g) (placed ++ g) :=
  ⟨fun k hk => h.sub k (List.mem_of_mem_erase hk), h.nd.erase g, fun k hk => by
    rcases h.all k hk with h1 | h1
    · by_cases e : k = g
      · exact .inr fun x hx => List.mem_append_right _ (e ▸ hx)
      · exact .inl ((List.mem_erase_of_ne e).mpr h1)
    · exact .inr fun x hx => List.mem_append_left _ (h1 x hx)⟩
theorem grp_hd {C : List Prc} (hC : OkC C) {g : List Str} (hg : g ∈ gls C) : ∃ a r, g = a :: r ∧ a ∈ nms C ∧ grp C a = g := by
  obtain ⟨p, hp, rfl⟩ := (mem_gls hC).mp hg
  have hself := grp_self hC (List.mem_map_of_mem (f := Prc.name) hp)
  cases e : grp C p.name with
  | nil => rw [e] at hself; cases hself
  | cons a r =>
    have ha : a ∈ grp C p.name := by rw [e]; exact List.mem_cons_self
    exact ⟨a, r, rfl, ((mem_grp hC).mp ha).1.nm hC, by rw [grp_same hC ha, e]⟩
theorem ready_ex {C : List Prc} (hC : OkC C) {waiting : List (List Str)} {placed : List Str} (h : WInv C waiting placed) (hne : waiting ≠ []) : ∃ g, waiting.find? (rdy C placed) = some g := by
  cases hf : waiting.find? (rdy C placed) with
  | some g => exact ⟨g, rfl⟩
  | none =>
    exfalso
    -- the least reach
    have key : ∀ (n : Nat) (g : List Str), g ∈ waiting → ((nms C).filter (rcB C (g.headD ""))).length ≤ n → False := fun n => by
      induction n with
      | zero =>
        intro g hg hn
        obtain ⟨a, r, rfl, ha, _⟩ := grp_hd hC (h.sub g hg)
        have : a ∈ (nms C).filter (rcB C a) := List.mem_filter.mpr ⟨ha, rcB_iff.mpr (.refl ha)⟩
        have hp := List.length_pos_of_mem this
        have hn2 : ((nms C).filter (rcB C a)).length ≤ 0 := hn
        omega
      | succ n ih =>
        intro g hg hn
        have hnr := List.find?_eq_none.mp hf g hg
        obtain ⟨a, r, e, ha, hga⟩ := grp_hd hC (h.sub g hg)
        have hhd : g.headD "" = a := by rw [e]; rfl
        rw [rdy_iff hC] at hnr
        obtain ⟨x, hx⟩ : ∃ x, ¬ (Rc C (g.headD "") x → x ∈ placed ∨ x ∈ g) := Classical.not_forall.mp hnr
        obtain ⟨hx1, hx2⟩ := Classical.not_imp.mp hx
        rw [not_or] at hx2
        rw [hhd] at hx1 hn
        have hxn := hx1.nm hC
        obtain ⟨q, hq, eq⟩ := List.mem_map.mp hxn
        have hgx : grp C x ∈ gls C := (mem_gls hC).mpr ⟨q, hq, by rw [eq]⟩
        have hxw : grp C x ∈ waiting := (h.all _ hgx).resolve_right fun hall => hx2.1 (hall x (grp_self hC hxn))
        obtain ⟨b, r', e2, hb, hgb⟩ := grp_hd hC hgx
        have hbx : b ∈ grp C x := by rw [e2]; exact List.mem_cons_self
        obtain ⟨b1, b2⟩ := (mem_grp hC).mp hbx
        have hhd2 : (grp C x).headD "" = b := by rw [e2]; rfl
        refine ih (grp C x) hxw ?_
        rw [hhd2]
        have hlt : ((nms C).filter (rcB C b)).length < ((nms C).filter (rcB C a)).length := by
          refine filter_ltX _ _ _ (fun z _ hz => rcB_iff.mpr ((hx1.trans b1).trans (rcB_iff.mp hz))) ⟨a, ha, ?_, rcB_iff.mpr (.refl ha)⟩
          cases e3 : rcB C b a with
          | false => rfl
          | true =>
            exfalso
            refine hx2.2 ?_
            rw [← hga]
            exact (mem_grp hC).mpr ⟨hx1, b1.trans (rcB_iff.mp e3)⟩
        omega
    cases waiting with
    | nil => exact hne rfl
    | cons g w => exact key _ g List.mem_cons_self (Nat.le_refl _)
/-- groups that stand behind what they call -/
def VO (C : List Prc) : List Str → List (List Str) → Prop
  | _, [] => True
  | placed, g :: gs => (g ∈ gls C ∧ ∀ x, Rc C (g.headD "") x → x ∈ placed ∨ x ∈ g) ∧ VO C (placed ++ g) gs
theorem topo_vo {C : List Prc} (hC : OkC C) : ∀ (n : Nat) (waiting : List (List Str)) (placed : List Str), (∀ g, g ∈ waiting → g ∈ gls C) → VO C placed (topo C n waiting placed)
  | 0, _, _, _ => trivial
  | n + 1, waiting, placed, h => by
    rw [topo]
    cases hf : waiting.find? (rdy C placed) with
    | none => trivial
    | some g =>
      refine ⟨⟨h g (List.mem_of_find?_eq_some hf), (rdy_iff hC).mp (List.find?_some hf)⟩, topo_vo hC n _ _ fun k hk => h k (List.mem_of_mem_erase hk)⟩
theorem topo_len {C : List Prc} (hC : OkC C) : ∀ (n : Nat) (waiting : List (List Str)) (placed : List Str), WInv C waiting placed → waiting.length = n → (topo C n waiting placed).length = n
  | 0, _, _, _, _ => rfl
  | n + 1, waiting, placed, h, hl => by
    obtain ⟨g, hg⟩ := ready_ex hC h (fun z => by rw [z] at hl; cases hl)
    have hgm := List.mem_of_find?_eq_some hg
    rw [topo, hg]
    show (topo C n (waiting.erase g) (placed ++ g)).length + 1 = n + 1
    rw [topo_len hC n _ _ (winv_step h hgm) (by rw [List.length_erase_of_mem hgm, hl]; rfl)]
end K88

set_option maxHeartbeats 4000000
namespace K88
open PySem L2 Evl
/-! ### reached_from, group_of -/
def spReach (K : PySem.W.Frag) : Sp := fun vs H Q _ => ∃ (v : V) (C : List Prc) (p : Prc), vs = [v, .str p.name] ∧ Rep K H v (coreDa C) ∧ OkC C ∧ p ∈ C ∧ RetLR K ((reachL C p.name).map Da.s) H Q
def spGrp (K : PySem.W.Frag) : Sp := fun vs H Q _ => ∃ (M : Addr) (C : List Prc) (R : Str → List Str) (p : Prc), vs = [.ref M, .str p.name] ∧ OkC C ∧ p ∈ C ∧ TabR C H M R ∧ (∀ q, q ∈ C → R q.name = reachL C q.name) ∧ RetP (fun v H => Rep K H v (td (grp C p.name))) H Q
theorem calls_len {C : List Prc} (hC : OkC C) (n : Str) : (callsOf C n).length ≤ 2340 := by
  unfold callsOf
  cases hf : C.find? fun q => decide (q.name = n) with
  | none => exact Nat.zero_le _
  | some p =>
    have hw := (hC.ok p (mem_of_find hf).1).wb
    have h1 := flat_len 4 p.body hw
    rw [fcap4] at h1
    show p.calls.length ≤ _
    unfold Prc.calls
    rw [List.length_map]
    exact Nat.le_trans (List.length_filter_le _ _) h1
theorem addC_in {acc : List Str} {c : Str} (h : c ∈ acc) : addC acc c = acc := by unfold addC; exact if_pos h
theorem addC_out {acc : List Str} {c : Str} (h : c ∉ acc) : addC acc c = acc ++ [c] := by unfold addC; exact if_neg h
section
variable {P : Program} {w : World} {K : PySem.W.Frag} {mg : Str → Option Value} {base : Heap} {σ : L2.St} {H : Hp} {te : TE}
/-- calls_in(proc_named(core, x)) -/
theorem ef_callsOf {C : List Prc} {v : V} {p : Prc} {ta tb : TE} {spP spC : Sp} (e1 : spP = spProc K) (e2 : spC = spCalls K) (hC : OkC C) (hp : p ∈ C) (ha : Ev ta σ H v) (hb : Ev tb σ H (.str p.name)) (hv : Rep K H v (coreDa C)) : EvF (tCall spC [] E0 (tCons (tCall spP [] E0 (tCons ta (tCons tb tNil))) tNil)) σ H (NewLR K ((callsOf C p.name).map Da.s)) := by
  subst e1 e2
  refine ef_callRA (PA := fun vs H => Reps K H vs [p.da]) (er_cons (ep_callA (PA := fun vs H => Reps K H vs [coreDa C, .s p.name]) (er_cons (ep_R ha hv) (er_cons (ep_Rs hb) er_nil)) fun vs H1 e1 r1 Q' hQ E' => ?_) er_nil) fun vs H1 e1 r1 Q' hQ E' => ?_
  · obtain ⟨u1, u2, rfl, k1, k2⟩ := reps_two r1
    rw [rep_str k2]
    exact ⟨u1, C, p.name, p, rfl, k1, hC.n6, find_of hC hp, hQ⟩
  · obtain ⟨u1, rfl, k1⟩ := reps_one r1
    rw [callsOf_of hC hp] at hQ
    exact ⟨u1, p, rfl, k1, (hC.ok p hp).wb, hQ⟩
theorem sc_reached_from : FnScope ["core", "name", "found", "index", "callee"] ["core", "name"] (defScope (topS 11)) := ⟨rfl, rfl, rfl, by decide +kernel, rfl, by decide +kernel, by decide +kernel⟩
theorem ok_reached_from {f : Addr} {fd : FuncData} (F : FnP K "reached_from" "reached_from" (topS 11) f fd) (T : Bt mg) (h_calls_in : Has P w K mg base "calls_in" ["proc"] 5 (spCalls K)) (h_proc_named : Has P w K mg base "proc_named" ["core", "name"] 1 (spProc K)) : FnOk P w K mg base CX0 6 f fd ["core", "name"] (spReach K) := by
  refine F.ok sc_reached_from (fun vs H Q E h => ?_) (fun cdv A outer s H vs Q E hr h => ?_)
  · obtain ⟨v, C, p, rfl, _⟩ := h
    rfl
  · obtain ⟨v, C, p, rfl, hv, hC, hp, q⟩ := h
    refine ⟨_, PSs.nox
      (pss_cons (ps_set (i := 2) sc_reached_from.nd rfl (Or.inl rfl) (pe_lst (pa_cons (pv 1) pa_nil)))
      (pss_cons (ps_set (i := 3) sc_reached_from.nd rfl (Or.inl rfl) pe_int)
      (pss_cons (ps_while PassesOwn.never (pt_cmpR op_lt (pv 3) (pe_callB (call_lenK K rfl) (by rfl) T.m_len (by decide +kernel) (pa_cons (pv 2) pa_nil)) (nomark _)) (pss_cons (ps_for PassesOwn.never rfl (pi_listK K rfl (pe_callH h_calls_in (hr.mono (by decide)) (by rfl) (pa_cons (pe_callH h_proc_named (hr.mono (by decide)) (by rfl) (pa_cons (pv 0) (pa_cons (pe_ix (ix_listK K rfl) (pv 2) (pv 3) (fun _ _ => rfl)) pa_nil))) pa_nil))) (pg_name (i := 4) sc_reached_from.nd rfl (Or.inl rfl)) (pss_one (ps_if (pt_cmpR op_notIn_seq (pv 4) (pv 2) rfl) (pss_one (ps_expr (pe_bm PySem.F.plainAttrs_list PySem.F.slot_list_append PySem.F.type_list_append mt_append (pv 2) (pa_cons (pv 4) pa_nil)))) pss_nil)))
      (pss_one (ps_aug (i := 3) sc_reached_from.nd rfl (Or.inl rfl) pe_int ip_add))))
      (pss_one (ps_ret (pv 2)))))), ?_⟩
    have hpn : p.name ∈ nms C := List.mem_map_of_mem hp
    refine q_asgL (el_lst (ea_cons (ev_var rfl) ea_nil) (by simp)) fun F H1 hF e1 h1 => ?_
    refine q_asg ev_c fun H2 e2 => ?_
    refine q_while (fun m σ' H' => ∃ xs i x4, σ' = [some v, some (.str p.name), some (.ref F), some (.int ((i : Nat) : Int)), x4] ∧ Ex H H' ∧ H' F = some (.lst (xs.map V.str)) ∧ RchS C p.name xs i ∧ reachN C (7 - i) xs i = reachL C p.name ∧ m = 7 - i) 7
      ⟨[p.name], 0, _, rfl, e1.trans e2, e2 _ _ h1, rch_start hpn, rfl, rfl⟩ ?_
    rintro m σ' H' ⟨xs, i, x4, rfl, e, hf, S, hN, rfl⟩
    have hlen := S.len hC
    have hle := S.le
    refine ⟨decide ((i : Int) < (xs.length : Int)), et_test (ev_is (ev_op (ev_var rfl) (ev_lenL (ev_var rfl) hf) rv_I0) (by rw [List.length_map])), fun hB H3 e3 => ?_, fun hB H3 e3 => ?_⟩
    · have hil : i < xs.length := by have := of_decide_eq_true hB; omega
      obtain ⟨n, hn⟩ : ∃ n, xs[i]? = some n := ⟨_, List.getElem?_eq_getElem hil⟩
      have hnr := S.snd n (List.mem_of_getElem? hn)
      obtain ⟨pn, hpn2, rfl⟩ := List.mem_map.mp (hnr.nm hC)
      refine ⟨fun σ' H' => ∃ xs i' x4, σ' = [some v, some (.str p.name), some (.ref F), some (.int ((i' : Nat) : Int)), x4] ∧ Ex H H' ∧ H' F = some (.lst (xs.map V.str)) ∧ RchS C p.name xs i' ∧ reachN C (7 - i') xs i' = reachL C p.name ∧ i' = i + 1, ?_, ?_⟩
      · rintro σ4 H4 ⟨xs', i', x4', rfl, e4, hf4, S4, hN4, rfl⟩
        have := S4.le
        have := S4.len hC
        exact ⟨7 - (i + 1), by omega, xs', i + 1, x4', rfl, e4, hf4, S4, hN4, rfl⟩
      have hf3 := e3 _ _ hf
      have hcl := calls_len hC pn.name
      have hnext : reachN C (7 - (i + 1)) (stepR C xs pn.name) (i + 1) = reachL C p.name := by
        rw [← hN, show 7 - i = (7 - (i + 1)) + 1 by omega, reachN, hn]
      refine q_seq ?_
      refine (ef_callsOf (K := K) (σ := [some v, some (.str p.name), some (.ref F), some (.int ((i : Nat) : Int)), x4]) rfl rfl hC hpn2 (ev_var (i := 0) rfl) (ev_ixL (i := i) (ev_var (i := 2) rfl) (ev_var (i := 3) rfl) hf3 (by rw [List.getElem?_map, hn]; rfl)) (hv.ex (e.trans e3))) H3 (Ex.refl _) _ fun vL H6 e6 ⟨L, ws, hvL, hL, hL6, rL⟩ => ?_
      subst hvL
      have ews := reps_strs rL
      subst ews
      have hLF : L ≠ F := fun z => by rw [z, hf3] at hL; cases hL
      refine ⟨L, rfl, ⟨_, sq_of hL6⟩, for_list (xs := (callsOf C pn.name).map V.str) (fun k σ' H' => ∃ x4, σ' = [some v, some (.str p.name), some (.ref F), some (.int ((i : Nat) : Int)), x4] ∧ Ex H H' ∧ H' L = some (.lst ((callsOf C pn.name).map V.str)) ∧ H' F = some (.lst ((((callsOf C pn.name).take k).foldl addC xs).map V.str))) ?_ (fun k σ' H' _ q => ?_) (fun k vn σ' H' hvn q => ?_) (fun σ' H' q => ?_)⟩
      · exact ⟨_, rfl, (e.trans e3).trans e6, hL6, e6 _ _ hf3⟩
      · obtain ⟨_, _, _, h, _⟩ := q
        exact sq_of h
      · obtain ⟨x4, rfl, e7, hL7, hF7⟩ := q
        rw [List.getElem?_map, Option.map_eq_some_iff] at hvn
        obtain ⟨z, hz, rfl⟩ := hvn
        have hstep : ((callsOf C pn.name).take (k + 1)).foldl addC xs = addC (((callsOf C pn.name).take k).foldl addC xs) z := by
          rw [take_succ_of hz, List.foldl_append]
          rfl
        have hacc : (((callsOf C pn.name).take k).foldl addC xs).length ≤ 5000 := by
          have key : ∀ (cs acc : List Str), (cs.foldl addC acc).length ≤ acc.length + cs.length := fun cs => by
            induction cs with
            | nil => exact fun acc => Nat.le_refl _
            | cons c cs ih =>
              intro acc
              have h1 := ih (addC acc c)
              have h2 : (addC acc c).length ≤ acc.length + 1 := by unfold addC; split <;> simp
              rw [List.foldl_cons, List.length_cons]
              omega
          have h1 := key ((callsOf C pn.name).take k) xs
          have h2 := List.length_take_le' k (callsOf C pn.name)
          omega
        show tIfS _ _ _ _ [some v, some (.str p.name), some (.ref F), some (.int ((i : Nat) : Int)), some (.str z)] H'
        refine s_when (et_test (ev_inStrs (neg := true) (ev_var rfl) (ep_lst (ev_var rfl) hF7 strs_reps))) (fun hB H8 e8 => ?_) (fun hB H8 e8 => ?_)
        · have hB' : z ∉ ((callsOf C pn.name).take k).foldl addC xs := by
            rw [if_pos rfl, Bool.not_eq_true', decide_eq_false_iff_not] at hB
            exact hB
          refine s_app (e8 _ _ hF7) (ev_var rfl) (ev_var rfl) (by rw [List.length_map]; omega) fun H9 e9 => ⟨_, rfl, (e7.trans (e8.trans e9)).mut hF, ?_, ?_⟩
          · rw [upd_ne hLF]
            exact (e8.trans e9) _ _ hL7
          · rw [upd_same, hstep, addC_out hB', List.map_append]
            rfl
        · have hB' : z ∈ ((callsOf C pn.name).take k).foldl addC xs := by
            rw [if_pos rfl, Bool.not_eq_false', decide_eq_true_eq] at hB
            exact hB
          refine ⟨_, rfl, e7.trans e8, e8 _ _ hL7, ?_⟩
          rw [hstep, addC_in hB']
          exact e8 _ _ hF7
      · obtain ⟨x4, rfl, e7, hL7, hF7⟩ := q
        rw [List.length_map, List.take_length] at hF7
        refine s_aug (f := fun i j => i + j) rfl ev_c fun H8 e8 => ⟨stepR C xs pn.name, i + 1, x4, ?_, e7.trans e8, e8 _ _ hF7, rch_step S hn, hnext, rfl⟩
        show [some v, some (.str p.name), some (.ref F), some (.int ((i : Int) + 1)), x4] = _
        rw [show ((i : Int) + 1) = ((i + 1 : Nat) : Int) by omega]
    · have hil : i = xs.length := by have := of_decide_eq_false hB; omega
      have hxs : xs = reachL C p.name := by
        rw [← hN]
        have hn : xs[i]? = none := List.getElem?_eq_none (by omega)
        have : ∀ f, reachN C f xs i = xs := fun f => by
          cases f with
          | zero => rfl
          | succ f => rw [reachN, hn]
        exact (this _).symm
      rw [hxs] at hf
      exact s_ret (ev_var rfl) fun H4 e4 => q F _ H4 hF ((e.trans e3).trans e4) ((e3.trans e4) _ _ hf) strs_reps
/-- sorted of a list of texts -/
theorem ep_sortS {xs ys : List Str} {tl : TE} (h : EvP tl σ H (IsLR K (xs.map Da.s))) (hl : xs.length < 64) (hy : ∀ zs : List Str, zs.Perm xs → PyProof.Rows.sortedS zs = true → zs = ys) : EvP (tCB (rSortedS K) (tCons tl tNil)) σ H (IsLR K (ys.map Da.s)) := fun H1 e Q q =>
  h H1 e _ fun v H2 e2 ⟨p, us, hv, hp, r⟩ => by
    subst hv
    have := reps_strs r
    subst this
    refine ⟨p, xs, rfl, sq_of hp, hl, fun zs a hperm hs ha => q _ _ (e2.trans (Ex.new ha)) ⟨a, _, rfl, upd_same, ?_⟩⟩
    rw [hy zs hperm hs]
    exact strs_reps
theorem sc_group_of : FnScope ["reached", "name", "other"] ["reached", "name"] (defScope (topS 12)) := ⟨rfl, rfl, rfl, by decide +kernel, rfl, by decide +kernel, by decide +kernel⟩
theorem ok_group_of {f : Addr} {fd : FuncData} (F : FnP K "group_of" "group_of" (topS 12) f fd) (T : Bt mg) : FnOk P w K mg base CX0 1 f fd ["reached", "name"] (spGrp K) := by
  refine F.ok sc_group_of (fun vs H Q E h => ?_) (fun cdv A outer s H vs Q E hr h => ?_)
  · obtain ⟨M, C, R, p, rfl, _⟩ := h
    rfl
  · obtain ⟨M, C, R, p, rfl, hC, hp, hT, hR, q⟩ := h
    refine ⟨_, PSs.nox
      (pss_one (ps_ret (pe_callTy (call_tuple_ofK K rfl) (by rfl) T.m_tuple (by decide +kernel) (pa_cons (pe_lc (own := [("other", 2)])  rfl sc_group_of.nd  (pi_listK K rfl (pe_callB cr_sortedS (by rfl) T.m_sorted (by decide +kernel) (pa_cons (pe_dget (hu_of hr) (pv 0) (pv 1) (fun _ _ => rfl)) pa_nil))) (blkOk_by (own := [("other", 2)]) (N := ["reached", "name", "other"]) (sc := defScope (topS 12)) (by decide +kernel)) (fun _ _ _ _ _ => (pg_name (i := 2) sc_group_of.nd rfl (Or.inl rfl))) (fun _ _ _ _ _ => (pts_one (pt_cmpR (op_in_seqK K rfl) (pv 1) (pe_dget (hu_of hr) (pv 0) (pv 2) (fun _ _ => rfl)) rfl))) (fun _ _ _ _ _ => (pv 2))) pa_nil)))), ?_⟩
    have hpn : p.name ∈ nms C := List.mem_map_of_mem hp
    have hys : ∀ zs : List Str, zs.Perm (R p.name) → PyProof.Rows.sortedS zs = true → zs = (nms C).filter (rcB C p.name) := fun zs hz hs => by
      rw [hR p hp] at hz
      refine srt_unique (strict_of (sorted_pw hs) (hz.nodup_iff.mpr (reachL_nd hC hpn))) ((nms_srt hC).filter _) fun x => ?_
      rw [hz.mem_iff, reachL_iff hC hpn, List.mem_filter, rcB_iff]
      exact ⟨fun h => ⟨h.nm hC, h⟩, fun h => h.2⟩
    have hlen : (R p.name).length < 64 := by
      rw [hR p hp]
      have := nodup_sub_len (reachL_nd hC hpn) fun x hx => ((reachL_iff hC hpn x).mp hx).nm hC
      rw [nms_len] at this
      have := hC.n6
      omega
    have hfl : ((nms C).filter (rcB C p.name)).length ≤ 100000 := by
      have := List.length_filter_le (rcB C p.name) (nms C)
      rw [nms_len] at this
      have := hC.n6
      omega
    refine s_retP (P := fun v H => Rep K H v (td (grp C p.name))) ?_ q
    have hcomp := ef_lcN (K := K) (σ := [some (.ref M), some (.str p.name), none]) (H := H) (b := (nms C).filter (rcB C p.name)) (f := fun x => rcB C x p.name) (g0 := Da.s) (e := Da.s) (tt := tTest (tOp (rIn K false) (tVar 1) (tDGet (tVar 0) (tVar 2)))) (vs := [2]) (tg := gName 2) (te := tVar 2) (ep_sortS (K := K) (tl := tDGet (tVar 0) (tVar 1)) (ep_tab (K := K) (C := C) hp (ev_var rfl) (ev_var rfl) hT) hlen hys) hfl (fun i x v' Hb hb eb rb => ⟨_, tgt_name, rfl, ?_, fun _ => ep_R (ev_var rfl) rb⟩)
    · have ee : ((nms C).filter (rcB C p.name)).filter (fun x => rcB C x p.name) = grp C p.name := by
        unfold grp
        rw [List.filter_filter]
        congr 1
        funext x
        exact Bool.and_comm _ _
      rw [ee] at hcomp
      exact er_tupL (ep_LR hcomp)
    · have hxm := (List.mem_filter.mp (List.mem_of_getElem? hb)).1
      obtain ⟨q2, hq2, rfl⟩ := List.mem_map.mp hxm
      rw [rep_str rb]
      have h1 := ev_inStrs (K := K) (neg := false) (x := p.name) (xs := R q2.name) (ta := tVar 1) (tb := tDGet (tVar 0) (tVar 2)) (σ := (wipe [some (V.ref M), some (.str p.name), none] [2]).set 2 (some (.str q2.name))) (H := Hb) (ev_var rfl) (ep_tab (K := K) (C := C) hq2 (ev_var rfl) (ev_var rfl) (hT.ex eb))
      refine et_is (et_test h1) ?_
      rw [if_neg (by decide), hR q2 hq2, Bool.eq_iff_iff, decide_eq_true_eq, rcB_iff, reachL_iff hC (List.mem_map_of_mem hq2)]
end
end K88

set_option maxHeartbeats 4000000
namespace K88
open PySem L2 Evl
theorem sc8_it {P : Program} {w : World} {J : It} {n : Nat} {G : Hp → Prop} {Y : Nat → Hp → V → Hp → Prop} (wk : Walk J n G Y) {g : TG} {te : TE} {vs : List Nat} {σ : L2.St} {H1 : Hp} {D : Addr} {Qd : Hp → Prop} (Pv : Nat → Hp → Prop) (h0 : Pv 0 (upd H1 D (Set8O P w D []))) (hG : ∀ i H, i ≤ n → Pv i H → G H)
    (hs : ∀ i x H H', i < n → Pv i H → Y i H x H' → g x (wipe σ vs) H' fun σ2 H2 => wipe σ2 vs = wipe σ vs ∧
      te σ2 H2 fun y H4 => ∃ (x : Addr) (k : List Str) (L : List Row8), y = .ref x ∧ H4 x = some (.tup (k.map V.str)) ∧ H4 D = some (Set8O P w D L) ∧ Rows8 H4 L ∧ L.length + 1 ≤ 16 ∧ ∀ L', Put8 x k L L' → Pv (i + 1) (upd H4 D (Set8O P w D L'))) (hd : ∀ H, Pv n H → Qd H) :
    ∃ W : Nat → Nat → Hp → Prop, (∃ m, W 0 m (upd H1 D (Set8O P w D []))) ∧ ∀ i m H, W i m H →
      (J.stop i H ∧ Qd H) ∨ (J.go i H ∧ ∃ Nx : Hp → Prop, (∀ H', Nx H' → ∃ m', m' < m ∧ W (i + 1) m' H') ∧ ∀ x H', J.yld i H x H' → g x (wipe σ vs) H' fun σ2 H2 => wipe σ2 vs = wipe σ vs ∧
        te σ2 H2 fun y H4 => ∃ (x : Addr) (k : List Str) (L : List Row8), y = .ref x ∧ H4 x = some (.tup (k.map V.str)) ∧ H4 D = some (Set8O P w D L) ∧ Rows8 H4 L ∧ L.length + 1 ≤ 16 ∧ ∀ L', Put8 x k L L' → Nx (upd H4 D (Set8O P w D L'))) := by
  refine ⟨fun i m H => m = n - i ∧ i ≤ n ∧ Pv i H, ⟨n, by simp, Nat.zero_le _, h0⟩, ?_⟩
  rintro i m H ⟨rfl, hi, p⟩
  have q := hG i H hi p
  by_cases hlt : i < n
  · exact .inr ⟨wk.goes i H hlt q, Pv (i + 1), fun H' p' => ⟨n - (i + 1), by omega, rfl, hlt, p'⟩, fun x H' y => hs i x H H' hlt p (wk.yields i H x H' hlt q y)⟩
  · have e : i = n := by omega
    subst e
    exact .inl ⟨wk.stops H q, hd H p⟩
theorem Rows8.ex {H H' : Hp} {L : List Row8} (h : Rows8 H L) (e : Ex H H') : Rows8 H' L := fun p hp => e _ _ (h p hp)
theorem Rows8.upd {H : Hp} {L : List Row8} {D : Addr} {o u : HO} (h : Rows8 H L) (hD : H D = some u) (hu : ∀ k, u ≠ .tup k) : Rows8 (upd H D o) L := fun p hp => by
  rw [upd_ne (fun e => hu _ (by have := h p hp; rw [e, hD] at this; exact Option.some.inj this))]
  exact h p hp
def spGrps (K : PySem.W.Frag) : Sp := fun vs H Q _ => ∃ (v : V) (C : List Prc), vs = [v] ∧ Rep K H v (coreDa C) ∧ OkC C ∧ RetP (fun v H => Rep K H v (.t ((torder C).map td))) H Q
section
variable {P : Program} {w : World} {K : PySem.W.Frag} {mg : Str → Option Value} {base : Heap}
/-- the set of the groups, sorted -/
theorem q_sortGroups {C : List Prc} {M : Addr} {kvs : List (Key × V)} {R : Str → List Str} {σ : L2.St} {H : Hp} {D : Ends} {tz : TS} (hC : OkC C) (hs1 : σ[1]? = some (some (.ref M))) (hsl : 7 < σ.length) (hw1 : (wipe σ [7])[1]? = some (some (.ref M))) (hM : H M = some (.dK kvs)) (hk : kvs.map (·.1) = (nms C).map Sum.inr) (hT : TabR C H M R) (hR : ∀ q, q ∈ C → R q.name = reachL C q.name)
    (hwp : ∀ x, wipe ((wipe σ [7]).set 7 (some x)) [7] = wipe σ [7])
    (k : ∀ W L H2, Ex H H2 → H W = none → H2 W = some (.lst (L.map fun q => V.ref q.1)) → Rows8 H2 L → L.map (·.2) = gls C → tz D (σ.set 2 (some (.ref W))) H2) :
    tSeq (tLock (tAsg (tCB (rSortS8 P w) (tCons (tSc8 P w (iKeys (tVar 1)) (gName 7) (tCall (spGrp K) [] E0 (tCons (tVar 1) (tCons (tVar 7) tNil))) [7]) tNil)) (gName 2))) tz D σ H := by
  refine ⟨M, .dK kvs, hM, trivial, fun od => ?_⟩
  have hTL : TabR C (upd H M (.frz od (.dK kvs))) M R := by
    obtain ⟨kvs', h1, h2⟩ := hT
    have e1 : kvs' = kvs := by
      rcases h1 with h1 | ⟨o, h1⟩
      · rw [hM] at h1; cases h1; rfl
      · rw [hM] at h1; cases h1
    subst e1
    refine ⟨kvs', .inr ⟨od, upd_same⟩, fun p hp => ?_⟩
    obtain ⟨a, h3, h4⟩ := h2 p hp
    exact ⟨a, h3, by rw [upd_ne (fun z => by rw [z, hM] at h4; cases h4)]; exact h4⟩
  have hML : upd H M (.frz od (.dK kvs)) M = some (.frz od (.dK kvs)) := upd_same
  have back : ∀ H3, Ex (upd H M (.frz od (.dK kvs))) H3 → Ex H (upd H3 M (.dK kvs)) := fun H3 e3 b o hb => by
    by_cases e : b = M
    · subst e
      rw [hM] at hb
      cases hb
      exact upd_same
    · rw [upd_ne e]
      exact e3 b o (by rw [upd_ne e]; exact hb)
  have hfresh : ∀ a, upd H M (.frz od (.dK kvs)) a = none → a ≠ M ∧ H a = none := fun a ha => by
    by_cases e : a = M
    · subst e; rw [upd_same] at ha; cases ha
    · rw [upd_ne e] at ha; exact ⟨e, ha⟩
  generalize upd H M (.frz od (.dK kvs)) = HL at hTL hML back hfresh
  show ∃ v, σ[1]? = some (some v) ∧ ∃ d o, v = V.ref d ∧ _
  refine ⟨.ref M, hs1, M, od, rfl, .inl ⟨kvs, hML, fun D' hD => ?_⟩⟩
  have hkl : kvs.length = C.length := by
    have := congrArg List.length hk
    rw [List.length_map, List.length_map, nms_len] at this
    exact this
  refine sc8_it (walk_keys (d := M) (o := od) (kvs := kvs)) (fun i H' => Ex HL H' ∧ ∃ L, H' D' = some (Set8O P w D' L) ∧ Rows8 H' L ∧ (L.map (·.2)).Nodup ∧ L.length ≤ i ∧ ∀ k, k ∈ L.map (·.2) ↔ ∃ j p, j < i ∧ C[j]? = some p ∧ k = grp C p.name) ?_ (fun i H' _ p => p.1 _ _ hML) (fun i x H' Hb hi p y => ?_) (fun H' p => ?_)
  · exact ⟨Ex.new hD, [], upd_same, fun p hp => absurd hp (by simp), by simp, Nat.le_refl _, fun k => ⟨fun h => absurd h (by simp), fun ⟨j, p, hj, _⟩ => absurd hj (Nat.not_lt_zero _)⟩⟩
  · obtain ⟨rfl, kk, vv, hkv, rfl⟩ := y
    obtain ⟨e, L, hL, hRL, hnd, hll, hmem⟩ := p
    have hi6 : i < 6 := by have := hC.n6; omega
    have hkey : (kvs.map (·.1))[i]? = some kk := by rw [List.getElem?_map, hkv]; rfl
    rw [hk, List.getElem?_map, Option.map_eq_some_iff] at hkey
    obtain ⟨nn, hnn, rfl⟩ := hkey
    unfold nms at hnn
    rw [List.getElem?_map, Option.map_eq_some_iff] at hnn
    obtain ⟨p, hp, rfl⟩ := hnn
    have hpC := List.mem_of_getElem? hp
    show wipe ((wipe σ [7]).set 7 (some (.str p.name))) [7] = wipe σ [7] ∧ tCall (spGrp K) [] E0 (tCons (tVar 1) (tCons (tVar 7) tNil)) ((wipe σ [7]).set 7 (some (.str p.name))) Hb _
    refine ⟨hwp _, ?_⟩
    have h71 : ((wipe σ [7]).set 7 (some (.str p.name)))[1]? = some (some (.ref M)) := by rw [List.getElem?_set_ne (by decide)]; exact hw1
    have h77 : ((wipe σ [7]).set 7 (some (V.str p.name)))[7]? = some (some (.str p.name)) := by rw [List.getElem?_set_self (by rw [wipe_length]; exact hsl)]
    refine m_call (ea_cons (ev_var h71) (ea_cons (ev_var h77) ea_nil)) fun H2 e2 => ?_
    refine ⟨M, C, R, p, rfl, hC, hpC, (hTL.ex e).ex e2, hR, fun vg H4 e4 rg => ?_⟩
    obtain ⟨ag, rfl, hag⟩ := rep_td rg
    have e24 := e2.trans e4
    refine ⟨ag, grp C p.name, L, rfl, hag, e24 _ _ hL, hRL.ex e24, by omega, fun L' hput => ?_⟩
    have hR4 := hRL.ex e24
    have hD4 := e24 _ _ hL
    refine ⟨(e.trans e24).mut hD, L', upd_same, ?_, ?_, ?_, fun k => ?_⟩
    · refine Rows8.upd (u := Set8O P w D' L) ?_ hD4 (fun k z => by cases z)
      by_cases hm : grp C p.name ∈ L.map (·.2)
      · rw [hput.1 hm]; exact hR4
      · intro q hq
        rcases List.mem_cons.mp ((hput.2 hm).mem_iff.mp hq) with rfl | hq
        · exact hag
        · exact hR4 q hq
    · by_cases hm : grp C p.name ∈ L.map (·.2)
      · rw [hput.1 hm]; exact hnd
      · exact (((hput.2 hm).map (·.2)).nodup_iff).mpr (List.nodup_cons.mpr ⟨hm, hnd⟩)
    · by_cases hm : grp C p.name ∈ L.map (·.2)
      · rw [hput.1 hm]; omega
      · rw [(hput.2 hm).length_eq, List.length_cons]; omega
    · have hstep : (∃ j q, j < i + 1 ∧ C[j]? = some q ∧ k = grp C q.name) ↔ (∃ j q, j < i ∧ C[j]? = some q ∧ k = grp C q.name) ∨ k = grp C p.name := by
        constructor
        · rintro ⟨j, q, hj, hq, rfl⟩
          by_cases ej : j = i
          · subst ej
            rw [hp] at hq
            cases hq
            exact .inr rfl
          · exact .inl ⟨j, q, by omega, hq, rfl⟩
        · rintro (⟨j, q, hj, hq, rfl⟩ | rfl)
          · exact ⟨j, q, by omega, hq, rfl⟩
          · exact ⟨i, p, by omega, hp, rfl⟩
      rw [hstep, ← hmem]
      by_cases hm : grp C p.name ∈ L.map (·.2)
      · rw [hput.1 hm]
        exact ⟨.inl, fun h => h.elim id fun e => e ▸ hm⟩
      · rw [((hput.2 hm).map (·.2)).mem_iff, List.map_cons, List.mem_cons]
        exact Or.comm
  · obtain ⟨e, L, hL, hRL, hnd, hll, hmem⟩ := p
    refine ⟨D', L, rfl, hL, hRL, fun q hq => ?_, fun L' a hperm hpw ha => ?_⟩
    · obtain ⟨j, p, _, hp, e2⟩ := (hmem q.2).mp (List.mem_map_of_mem hq)
      have := grp_self hC (List.mem_map_of_mem (f := Prc.name) (List.mem_of_getElem? hp))
      rw [← e2] at this
      exact fun z => by rw [z] at this; cases this
    · have hks : L'.map (·.2) = gls C := by
        refine gls_of_sorted hC (List.pairwise_map.mpr hpw) ((hperm.map (·.2)).nodup_iff.mpr hnd) fun k => ?_
        rw [(hperm.map (·.2)).mem_iff, hmem]
        constructor
        · rintro ⟨j, p, _, hp, rfl⟩
          exact ⟨p, List.mem_of_getElem? hp, rfl⟩
        · rintro ⟨p, hp, rfl⟩
          obtain ⟨j, hj, e2⟩ := List.getElem_of_mem hp
          exact ⟨j, p, by omega, by rw [List.getElem?_eq_getElem hj, e2], rfl⟩
      have e3 : Ex HL (upd H' a (.lst (L'.map fun q => V.ref q.1))) := e.trans (Ex.new ha)
      obtain ⟨haM, haH⟩ := hfresh a (fresh_back e ha)
      refine ⟨e3 _ _ hML, ?_⟩
      refine k a L' _ (back _ e3) haH ?_ ?_ hks
      · rw [upd_ne haM, upd_same]
      · refine Rows8.upd (u := .frz od (.dK kvs)) ?_ (e3 _ _ hML) (fun k z => by cases z)
        intro q hq
        rw [upd_ne (fun z => by have := hRL q (hperm.mem_iff.mp hq); rw [z, ha] at this; cases this)]
        exact hRL q (hperm.mem_iff.mp hq)
end
end K88

set_option maxHeartbeats 4000000
namespace K88
open PySem L2 Evl
theorem gls_len {C : List Prc} (hC : OkC C) : (gls C).length ≤ 6 := by
  unfold gls
  rw [List.length_map]
  exact Nat.le_trans (List.length_filter_le _ _) hC.n6
theorem grp_len {C : List Prc} (hC : OkC C) (n : Str) : (grp C n).length ≤ 6 := by
  unfold grp
  have := List.length_filter_le (fun x => rcB C n x && rcB C x n) (nms C)
  rw [nms_len] at this
  have := hC.n6
  omega
theorem gl_len {C : List Prc} (hC : OkC C) {g : List Str} (hg : g ∈ gls C) : g.length ≤ 6 := by
  obtain ⟨p, hp, rfl⟩ := (mem_gls hC).mp hg
  exact grp_len hC _
theorem find_row : ∀ (L : List Row8) (g : List Str), g ∈ L.map (·.2) → ∃ j q, L[j]? = some q ∧ q.2 = g ∧ (∀ (m : Nat) (r : Row8), m < j → L[m]? = some r → r.2 ≠ q.2) ∧ (L.eraseIdx j).map (·.2) = (L.map (·.2)).erase g
  | [], g, h => absurd h (by simp)
  | r :: L, g, h => by
    by_cases e : r.2 = g
    · subst e
      exact ⟨0, r, rfl, rfl, fun m r' hm => absurd hm (Nat.not_lt_zero _), by simp⟩
    · have h' : g ∈ L.map (·.2) := by
        rw [List.map_cons] at h
        rcases List.mem_cons.mp h with h | h
        · exact absurd h.symm e
        · exact h
      obtain ⟨j, q, h1, h2, h3, h4⟩ := find_row L g h'
      refine ⟨j + 1, q, by simpa using h1, h2, fun m r' hm hr => ?_, ?_⟩
      · cases m with
        | zero =>
          have : r = r' := by simpa using hr
          subst this
          rw [h2]
          exact e
        | succ m => exact h3 m r' (by omega) (by simpa using hr)
      · rw [List.eraseIdx_cons_succ, List.map_cons, List.map_cons, List.erase_cons_tail (by simpa using e), h4]
theorem find_head {α : Type} {f : α → Bool} : ∀ {l : List α} {g : α}, l.find? f = some g → (l.filter f)[0]? = some g
  | x :: l, g, h => by
    rw [List.find?_cons] at h
    by_cases e : f x = true
    · rw [e] at h
      cases h
      rw [List.filter_cons, if_pos e]
      rfl
    · have e' : f x = false := by simpa using e
      rw [e'] at h
      rw [List.filter_cons, if_neg e]
      exact find_head h
theorem rows_exs {l : Addr} {H H1 : Hp} {us : List V} {L : List Row8} (h : Rows8 H L) (hl : H l = some (.lst us)) (x : Exs l H H1) : Rows8 H1 L := fun p hp => x _ _ (fun z => by have := h p hp; rw [z, hl] at this; cases this) (h p hp)
section
variable {P : Program} {w : World} {K : PySem.W.Frag} {mg : Str → Option Value} {base : Heap} {σ : L2.St} {H : Hp} {De : Ends} {tz : TS} {ta te : TE}
/-- xs.remove(t) -/
theorem s_rem8 {l : Addr} {us : List V} {ks : List (List Str)} {g : List Str} (hl : H l = some (.lst us)) (hr : Reps K H us (ks.map td)) (hg : g ∈ ks) (ha : Ev ta σ H (.ref l)) (h : EvP te σ H (fun v H => Rep K H v (td g)))
    (k : ∀ H1 us', Exs l H H1 → H1 l = some (.lst us') → Reps K H1 us' ((ks.erase g).map td) → De.nx σ H1) : tDrop (tBM K "list" rRem8 ta (tCons te tNil)) De σ H := ha H (Ex.refl H) _ fun H1 e1 =>
  ⟨Or.inl ⟨rfl, us, sq_of (e1 l _ hl)⟩, h H1 e1 _ fun v H2 e2 r => by
    obtain ⟨a, rfl, hA⟩ := rep_td r
    obtain ⟨L, rfl, eL, hR⟩ := rows_of (hr.ex (e1.trans e2))
    rw [← eL] at hg
    obtain ⟨j, q, h1, h2, h3, h4⟩ := find_row L g hg
    refine ⟨l, a, L, q, j, rfl, rfl, by rw [h2]; exact hA, (e1.trans e2) _ _ hl, hR, h1, h3, k _ _ ((Ex.s (e1.trans e2)).upd) upd_same ?_⟩
    rw [← eL, ← h4]
    refine of_rows fun p hp => ?_
    have hp' : p ∈ L := List.mem_of_mem_eraseIdx hp
    exact rows_exs hR ((e1.trans e2) _ _ hl) exs_upd p hp'⟩
theorem sc_groups_of : FnScope ["core", "reached", "waiting", "found", "placed", "ready", "proc", "name", "group", "x"] ["core"] (defScope (topS 13)) := ⟨rfl, rfl, rfl, by decide +kernel, rfl, by decide +kernel, by decide +kernel⟩
theorem ok_groups_of {f : Addr} {fd : FuncData} (F : FnP K "groups_of" "groups_of" (topS 13) f fd) (T : Bt mg) (h_reached_from : Has P w K mg base "reached_from" ["core", "name"] 6 (spReach K)) (h_group_of : Has P w K mg base "group_of" ["reached", "name"] 1 (spGrp K)) : FnOk P w K mg base CX0 7 f fd ["core"] (spGrps K) := by
  refine F.ok sc_groups_of (fun vs H Q E h => ?_) (fun cdv A outer s H vs Q E hr h => ?_)
  · obtain ⟨v, C, rfl, _⟩ := h
    rfl
  · obtain ⟨v, C, rfl, hv, hC, q⟩ := h
    refine ⟨_, PSs.nox
      (pss_cons (ps_set (i := 1) sc_groups_of.nd rfl (Or.inr rfl) (pe_dc (own := [("proc", 6)]) rfl sc_groups_of.nd  (pi_tupK K rfl (pv 0)) (blkOk_by (own := [("proc", 6)]) (N := ["core", "reached", "waiting", "found", "placed", "ready", "proc", "name", "group", "x"]) (sc := defScope (topS 13)) (by decide +kernel)) (fun _ _ _ _ _ => (pg_name (i := 6) sc_groups_of.nd rfl (Or.inl rfl))) (fun _ _ _ _ _ => pts_nil) (fun _ _ _ _ _ => (pe_ix (ix_tupK K rfl) (pv 6) pe_int (fun _ _ => rfl))) (fun _ _ _ _ _ => (pe_callH h_reached_from (hr.mono (by decide)) (by rfl) (pa_cons (pv 0) (pa_cons (pe_ix (ix_tupK K rfl) (pv 6) pe_int (fun _ _ => rfl)) pa_nil))))))
      (pss_cons (ps_lock (ps_set (i := 2) sc_groups_of.nd rfl (Or.inl rfl) (pe_callB (cr_sortS8 rfl) (by rfl) T.m_sorted (by decide +kernel) (pa_cons (pe_sc8 (own := [("name", 7)]) rfl hr.units sc_groups_of.nd (pi_keys (pv 1)) (blkOk_by (own := [("name", 7)]) (N := ["core", "reached", "waiting", "found", "placed", "ready", "proc", "name", "group", "x"]) (sc := defScope (topS 13)) (by decide +kernel)) (fun _ _ _ _ _ => (pg_name (i := 7) sc_groups_of.nd rfl (Or.inl rfl))) (fun _ _ _ _ _ => (pe_callH h_group_of (hr.mono (by decide)) (by rfl) (pa_cons (pv 1) (pa_cons (pv 7) pa_nil))))) pa_nil))))
      (pss_cons (ps_set (i := 3) sc_groups_of.nd rfl (Or.inl rfl) (pe_lst pa_nil))
      (pss_cons (ps_set (i := 4) sc_groups_of.nd rfl (Or.inr rfl) (pe_lst pa_nil))
      (pss_cons (ps_while PassesOwn.never (pt_truth (pv 2) (by intro _; rfl)) (pss_cons (ps_setLc (i := 5) (own := [("group", 8)])  rfl sc_groups_of.nd rfl rfl (sw_true rfl rfl rfl (by decide +kernel)) (pi_listK K rfl (pv 2)) (blkOk_by (own := [("group", 8)]) (N := ["core", "reached", "waiting", "found", "placed", "ready", "proc", "name", "group", "x"]) (sc := defScope (topS 13)) (by decide +kernel)) (fun _ _ _ _ _ => (pg_name (i := 8) sc_groups_of.nd rfl (Or.inr rfl))) (fun _ _ _ _ _ => (pts_one (pt_val (pe_callB (cr_allK K rfl rfl) (by rfl) T.m_all (by decide +kernel) (pa_cons (pe_lc (own := [("x", 9)])  rfl sc_groups_of.nd  (pi_listK K rfl (pe_dget (hu_of hr) (pv 1) (pe_ix (ix_tupK K rfl) (pv 8) pe_int (fun _ _ => rfl)) (fun _ _ => rfl))) (blkOk_by (own := [("x", 9)]) (N := ["core", "reached", "waiting", "found", "placed", "ready", "proc", "name", "group", "x"]) (by rfl)) (fun _ _ _ _ _ => (pg_name (i := 9) sc_groups_of.nd rfl (Or.inl rfl))) (fun _ _ _ _ _ => pts_nil) (fun _ _ _ _ _ => (pe_or (pe_cmpR (op_in_seqK K rfl) (pv 9) (pv 4) rfl) (pe_one (pe_cmpR (op_in_seqK K rfl) (pv 9) (pv 8) rfl))))) pa_nil))))) (fun _ _ _ _ _ => (pv 8)))
      (pss_cons (ps_expr (pe_bm PySem.F.plainAttrs_list PySem.F.slot_list_append PySem.F.type_list_append mt_append (pv 3) (pa_cons (pe_ix (ix_listK K rfl) (pv 5) pe_int (fun _ _ => rfl)) pa_nil)))
      (pss_cons (ps_expr (pe_bm PySem.F.plainAttrs_list PySem.F.slot_list_extend PySem.F.type_list_extend mt_extT (pv 4) (pa_cons (pe_ix (ix_listK K rfl) (pv 5) pe_int (fun _ _ => rfl)) pa_nil)))
      (pss_one (ps_expr (pe_bm PySem.F.plainAttrs_list PySem.F.slot_list_remove PySem.F.type_list_remove (mt_rem8 hr.units) (pv 2) (pa_cons (pe_ix (ix_listK K rfl) (pv 5) pe_int (fun _ _ => rfl)) pa_nil))))))))
      (pss_one (ps_ret (pe_callTy (call_tuple_ofK K rfl) (by rfl) T.m_tuple (by decide +kernel) (pa_cons (pv 3) pa_nil))))))))), ?_⟩
    have hv0 := hv
    unfold coreDa Rep at hv
    obtain ⟨a, us, rfl, ha, hr2⟩ := hv
    have h6 := hC.n6
    refine q_seq (s_dcTab (T := reachL C) hC (ev_var rfl) ha hr2 (fun _ => rfl) (fun p v Hb hp eb rb => ?_) (fun p v Hb hp eb rb => ?_) fun M H1 e1 t1 => ?_)
    · rw [prc_da] at rb
      exact ev_ixRs (i := 0) (ev_var rfl) rb rfl
    · refine ef_callRA (PA := fun vs H => Reps K H vs [coreDa C, .s p.name]) (er_cons (ep_R (ev_var rfl) (hv0.ex eb)) (er_cons (ep_Rs (by rw [prc_da] at rb; exact ev_ixRs (i := 0) (ev_var rfl) rb rfl)) er_nil)) fun vs H2 e2 r2 Q' hQ E' => ?_
      obtain ⟨u1, u2, rfl, k1, k2⟩ := reps_two r2
      rw [rep_str k2]
      exact ⟨u1, C, p, rfl, k1, hC, hp, hQ⟩
    have tR := t1.r
    obtain ⟨kvs, ad, m1, m0, ml, _, _⟩ := t1
    refine q_sortGroups (R := reachL C) hC rfl (by show (7 : Nat) < 10; decide) rfl m1 (by rw [ml, nms]) tR (fun q _ => rfl) (fun _ => rfl) fun W L H2 e2 hW w2 hRL hgl => ?_
    refine q_asgR (ef_nil K) fun F us0 H3 hF e3 h3 r3 => ?_
    refine q_asgR (ef_nil K) fun Pl us1 H4 hPl e4 h4 r4 => ?_
    have e24 := e3.trans e4
    have hFW : F ≠ W := fun z => by rw [z, w2] at hF; cases hF
    have hPF : Pl ≠ F := fun z => by rw [z, h3] at hPl; cases hPl
    have hPW : Pl ≠ W := fun z => by rw [z, e3 _ _ w2] at hPl; cases hPl
    have e12 := e1.trans e2
    have hF1 : H1 F = none := fresh_back e2 hF
    have hPl1 : H1 Pl = none := fresh_back (e2.trans e3) hPl
    have hgl6 := gls_len hC
    refine q_while (fun m σ' H' => ∃ uw uf waiting found placed x5, σ' = [some (.ref a), some (.ref M), some (.ref W), some (.ref F), some (.ref Pl), x5, none, none, none, none] ∧ Ex H1 H' ∧ H' W = some (.lst uw) ∧ Reps K H' uw (waiting.map td) ∧ H' F = some (.lst uf) ∧ Reps K H' uf (found.map td) ∧ H' Pl = some (.lst (placed.map V.str)) ∧
        WInv C waiting placed ∧ found ++ topo C waiting.length waiting placed = torder C ∧ found.length + waiting.length ≤ 6 ∧ placed.length ≤ found.length * 6 ∧ m = waiting.length) (gls C).length
      ⟨_, us0, gls C, [], [], _, rfl, e2.trans e24, e24 _ _ w2, by rw [← hgl]; exact of_rows (hRL.ex e24), e4 _ _ h3, r3.ex e4, by have := reps_strs (xs := []) r4; rw [this] at h4; exact h4, winv_start hC, rfl, by simpa using hgl6, Nat.le_refl _, rfl⟩ ?_
    rintro m σ' H' ⟨uw, uf, waiting, found, placed, x5, rfl, e, hw', rw', hf', rf', hp', wi, htop, hsz, hpl, rfl⟩
    have hwl : uw.length = waiting.length := by rw [rw'.len, List.length_map]
    refine ⟨!uw.isEmpty, fun H5 e5 Q' q' => ⟨.ref W, rfl, !uw.isEmpty, .inl ⟨uw, sq_of (e5 _ _ hw'), rfl⟩, q' H5 (Ex.refl _)⟩, fun hB H5 e5 => ?_, fun hB H5 e5 => ?_⟩
    · have hne : waiting ≠ [] := fun z => by
        subst z
        have : uw = [] := List.eq_nil_of_length_eq_zero hwl
        subst this
        cases hB
      obtain ⟨g, hg⟩ := ready_ex hC wi hne
      have hgm := List.mem_of_find?_eq_some hg
      have hgg := wi.sub g hgm
      have hg6 := gl_len hC hgg
      have hlt : waiting.length ≠ 0 := fun z => hne (List.eq_nil_of_length_eq_zero z)
      have hel : (waiting.erase g).length = waiting.length - 1 := List.length_erase_of_mem hgm
      refine ⟨fun σ' H' => ∃ uw uf x5, σ' = [some (.ref a), some (.ref M), some (.ref W), some (.ref F), some (.ref Pl), x5, none, none, none, none] ∧ Ex H1 H' ∧ H' W = some (.lst uw) ∧ Reps K H' uw ((waiting.erase g).map td) ∧ H' F = some (.lst uf) ∧ Reps K H' uf ((found ++ [g]).map td) ∧ H' Pl = some (.lst ((placed ++ g).map V.str)), ?_, ?_⟩
      · rintro σ6 H6 ⟨uw6, uf6, x6, rfl, e6, w6, rw6, f6, rf6, p6⟩
        refine ⟨(waiting.erase g).length, by omega, uw6, uf6, waiting.erase g, found ++ [g], placed ++ g, x6, rfl, e6, w6, rw6, f6, rf6, p6, winv_step wi hgm, ?_, by rw [List.length_append, List.length_singleton]; omega, by rw [List.length_append, List.length_append, List.length_singleton]; omega, rfl⟩
        rw [← htop, List.append_assoc]
        congr 1
        obtain ⟨n, hn⟩ : ∃ n, waiting.length = n + 1 := ⟨waiting.length - 1, by omega⟩
        rw [hel, hn, topo, hg]
        rfl
      · have e05 := e.trans e5
        refine q_asgR (ef_lcL (K := K) (b := waiting) (f := rdy C placed) (e := td) (g0 := td) (ev_var rfl) (e5 _ _ hw') (rw'.ex e5) (by omega) fun i x v Hb hx eb rb => ⟨_, tgt_name, rfl, ?_, fun _ => ep_R (ev_var rfl) rb⟩) fun Rd ur H6 hRd e6 h6 r6 => ?_
        · -- the test
          obtain ⟨hd, rst, exg, hdn, hgrp⟩ := grp_hd hC (wi.sub x (List.mem_of_getElem? hx))
          obtain ⟨ph, hph, ehd⟩ := List.mem_map.mp hdn
          have rb2 : Rep K Hb v (.t (x.map Da.s)) := rb
          rw [exg] at rb2
          have hT : TabR C Hb M (reachL C) := tR.ex (e05.trans eb)
          have h0 : Ev (tOp (rIxT K) (tVar 8) (tC (V.int 0))) ((wipe [some (.ref a), some (.ref M), some (.ref W), some (.ref F), some (.ref Pl), x5, none, none, none, none] [8]).set 8 (some v)) Hb (.str ph.name) := by
            rw [ehd]
            exact ev_ixRs (i := 0) (ev_var rfl) rb2 rfl
          have hlr : (reachL C ph.name).length ≤ 6 := by
            have := nodup_sub_len (reachL_nd hC (List.mem_map_of_mem hph)) fun x hx => ((reachL_iff hC (List.mem_map_of_mem hph) x).mp hx).nm hC
            rw [nms_len] at this
            omega
          refine et_is (et_B (ev_all (bs := (reachL C ph.name).map fun y => decide (y ∈ placed) || decide (y ∈ x)) (ep_L (el_newL (xs := (reachL C ph.name).map V.str) _ (fun H7 e7 Q7 q7 => (ep_tab (K := K) (C := C) hph (ev_var rfl) h0 hT) H7 e7 Q7 fun v8 H8 e8 ⟨p8, u8, a8, b8, c8⟩ => q7 v8 H8 e8 ⟨p8, a8, by rw [b8, reps_strs c8]⟩) (by simp) (by rw [List.length_map]; omega) (fun _ => rfl) fun i u y hu hy => ?_)))) ?_
          · rw [List.getElem?_map, Option.map_eq_some_iff] at hu
            obtain ⟨z, hz, rfl⟩ := hu
            rw [List.getElem?_map, List.getElem?_map, hz] at hy
            cases hy
            have a1 := ev_inStrs (K := K) (neg := false) (x := z) (xs := placed) (ta := tVar 9) (tb := tVar 4) (σ := (wipe ((wipe [some (V.ref a), some (.ref M), some (.ref W), some (.ref F), some (.ref Pl), x5, none, none, none, none] [8]).set 8 (some v)) [9]).set 9 (some (.str z))) (H := Hb) (ev_var rfl) (ep_lst (ev_var rfl) (eb _ _ (e5 _ _ hp')) strs_reps)
            have a2 := ev_inStrsT (K := K) (neg := false) (x := z) (xs := x) (ta := tVar 9) (tb := tVar 8) (σ := (wipe ((wipe [some (V.ref a), some (.ref M), some (.ref W), some (.ref F), some (.ref Pl), x5, none, none, none, none] [8]).set 8 (some v)) [9]).set 9 (some (.str z))) (H := Hb) (ev_var rfl) (ep_R (ev_var rfl) rb)
            rw [if_neg (by decide)] at a1 a2
            exact ev_orV a1 fun _ => a2
          · rw [Bool.eq_iff_iff, rdy_iff hC, List.all_map, List.all_eq_true]
            have ehd2 : x.headD "" = ph.name := by rw [exg, ehd]; rfl
            rw [ehd2]
            constructor
            · intro h z hz
              have := h z ((reachL_iff hC (List.mem_map_of_mem hph) z).mpr hz)
              simpa using this
            · intro h z hz
              have := h z ((reachL_iff hC (List.mem_map_of_mem hph) z).mp hz)
              simpa using this
        have hRF : Rd ≠ F := fun z => by rw [z, e5 _ _ hf'] at hRd; cases hRd
        have hRP : Rd ≠ Pl := fun z => by rw [z, e5 _ _ hp'] at hRd; cases hRd
        have e56 := e5.trans e6
        have hg0 : ((waiting.filter (rdy C placed)).map td)[0]? = some (td g) := by rw [List.getElem?_map, find_head hg]; rfl
        refine q_appR (e56 _ _ hf') (rf'.ex e56) (by rw [List.length_map]; omega) (ev_var rfl) (ev_ixN (i := 0) (ep_lst (ev_var rfl) h6 r6) hg0) fun H7 uf7 x7 f7 rf7 => ?_
        have h67 := x7 _ _ hRF h6
        have r67 : Reps K H7 ur ((waiting.filter (rdy C placed)).map td) := r6.exs (e56 _ _ hf') x7
        have p7 := x7 _ _ hPF (e56 _ _ hp')
        have w7 := x7 _ _ (Ne.symm hFW) (e56 _ _ hw')
        have rw7 : Reps K H7 uw (waiting.map td) := (rw'.ex e56).exs (e56 _ _ hf') x7
        refine q_seq (s_extTR (ds := g.map Da.s) (l0 := placed.map Da.s) p7 strs_reps (by rw [List.length_map, List.length_map]; omega) (ev_var rfl) (ev_ixN (i := 0) (ep_lst (ev_var rfl) h67 r67) hg0) fun H8 up8 x8 p8 rp8 => ?_)
        rw [← List.map_append] at rp8
        have ep8 := reps_strs rp8
        subst ep8
        have h78 := x8 _ _ hRP h67
        have r78 : Reps K H8 ur ((waiting.filter (rdy C placed)).map td) := r67.exs p7 x8
        have w8 := x8 _ _ (Ne.symm hPW) w7
        have rw8 : Reps K H8 uw (waiting.map td) := rw7.exs p7 x8
        have f8 := x8 _ _ (Ne.symm hPF) f7
        have rf8 : Reps K H8 uf7 (found.map td ++ [td g]) := rf7.exs p7 x8
        refine s_rem8 w8 rw8 hgm (ev_var rfl) (ev_ixN (i := 0) (ep_lst (ev_var rfl) h78 r78) hg0) fun H9 uw9 x9 w9 rw9 => ?_
        refine ⟨uw9, uf7, _, rfl, ?_, w9, rw9, x9 _ _ hFW f8, by rw [List.map_append]; exact rf8.exs w8 x9, x9 _ _ hPW p8⟩
        exact exs_base hW (exs_base hPl1 (exs_base hF1 (e.trans e56) x7) x8) x9
    · have hnil : waiting = [] := by
        cases uw with
        | nil => exact List.eq_nil_of_length_eq_zero hwl.symm
        | cons _ _ => cases hB
      subst hnil
      have hfd : found = torder C := by
        rw [← htop]
        show found = found ++ topo C 0 [] placed
        rw [topo, List.append_nil]
      rw [hfd] at rf'
      have hv1 : Rep K H (.ref a) (coreDa C) := hv0
      exact s_retP (er_tupL (ep_lst (ev_var rfl) (e5 _ _ hf') (rf'.ex e5))) fun v H9 e9 r9 => q v H9 ((e1.trans e).trans (e5.trans e9)) r9
end
end K88

set_option maxHeartbeats 4000000
namespace K88
open PySem L2 Evl
/-! ### ways down -/
noncomputable def wcal (C : List Prc) (T : Str → Int) (g : List Str) (t : Int) (c : Str) : Int := if c ∈ g then t else t + (1 + T c)
noncomputable def wnam (C : List Prc) (T : Str → Int) (g : List Str) (t : Int) (n : Str) : Int := (callsOf C n).foldl (wcal C T g) t
noncomputable def wtot (C : List Prc) (T : Str → Int) (g : List Str) : Int := g.foldl (wnam C T g) 0
noncomputable def wstep (C : List Prc) (T : Str → Int) (g : List Str) : Str → Int := fun x => if x ∈ g then wtot C T g else T x
noncomputable def wfin (C : List Prc) : Str → Int := (torder C).foldl (wstep C) fun _ => 0
theorem vo_at {C : List Prc} : ∀ {gs : List (List Str)} {placed : List Str} {i : Nat} {g : List Str}, VO C placed gs → gs[i]? = some g → g ∈ gls C ∧ ∀ x, Rc C (g.headD "") x → x ∈ placed ++ (gs.take i).flatten ∨ x ∈ g
  | g :: gs, placed, 0, g', h, hi => by
    have : g = g' := by simpa using hi
    subst this
    exact ⟨h.1.1, fun x hx => by simpa using h.1.2 x hx⟩
  | g :: gs, placed, i + 1, g', h, hi => by
    have hi' : gs[i]? = some g' := by simpa using hi
    obtain ⟨h1, h2⟩ := vo_at h.2 hi'
    exact ⟨h1, fun x hx => by simpa [List.append_assoc] using h2 x hx⟩
theorem topo_mem {C : List Prc} (hC : OkC C) : ∀ (n : Nat) (waiting : List (List Str)) (placed : List Str), WInv C waiting placed → waiting.length = n → ∀ g, g ∈ waiting → g ∈ topo C n waiting placed
  | 0, waiting, _, _, hl, g, hg => by
    have : waiting = [] := List.eq_nil_of_length_eq_zero hl
    rw [this] at hg
    cases hg
  | n + 1, waiting, placed, h, hl, g, hg => by
    obtain ⟨g', hg'⟩ := ready_ex hC h (fun z => by rw [z] at hl; cases hl)
    have hgm := List.mem_of_find?_eq_some hg'
    rw [topo, hg']
    show g ∈ g' :: topo C n (waiting.erase g') (placed ++ g')
    by_cases e : g = g'
    · exact e ▸ List.mem_cons_self
    · exact List.mem_cons_of_mem _ (topo_mem hC n _ _ (winv_step h hgm) (by rw [List.length_erase_of_mem hgm, hl]; rfl) g ((List.mem_erase_of_ne e).mpr hg))
theorem torder_vo {C : List Prc} (hC : OkC C) : VO C [] (torder C) := topo_vo hC _ _ _ fun _ h => h
theorem torder_len {C : List Prc} (hC : OkC C) : (torder C).length ≤ 6 := by
  unfold torder
  rw [topo_len hC _ _ _ (winv_start hC) rfl]
  exact gls_len hC
theorem torder_all {C : List Prc} (hC : OkC C) {x : Str} (hx : x ∈ nms C) : x ∈ (torder C).flatten := by
  obtain ⟨p, hp, rfl⟩ := List.mem_map.mp hx
  exact List.mem_flatten.mpr ⟨grp C p.name, topo_mem hC _ _ _ (winv_start hC) rfl _ ((mem_gls hC).mpr ⟨p, hp, rfl⟩), grp_self hC hx⟩
theorem torder_calls {C : List Prc} (hC : OkC C) {i : Nat} {g : List Str} (hg : (torder C)[i]? = some g) : (∀ n, n ∈ g → n ∈ nms C) ∧ g.length ≤ 6 ∧ ∀ n, n ∈ g → ∀ c, c ∈ callsOf C n → c ∈ ((torder C).take i).flatten ∨ c ∈ g := by
  obtain ⟨h1, h2⟩ := vo_at (torder_vo hC) hg
  obtain ⟨a, r, eg, ha, hga⟩ := grp_hd hC h1
  have hd : g.headD "" = a := by rw [eg]; rfl
  have hR : ∀ n, n ∈ g → Rc C a n := fun n hn => by
    rw [← hga] at hn
    exact ((mem_grp hC).mp hn).1
  refine ⟨fun n hn => (hR n hn).nm hC, gl_len hC h1, fun n hn c hc => ?_⟩
  have := h2 c (by rw [hd]; exact .step (hR n hn) hc)
  simpa using this
def IntT (n : Nat) (T : Str → Int) (done : List Str) (M : Addr) (H : Hp) : Prop := ∃ kvs : List (Key × V), H M = some (.dK kvs) ∧ kvs.length ≤ n ∧ ∀ x, x ∈ done → valV kvs (Sum.inr x) = some (.int (T x))
theorem IntT.ex {n : Nat} {T : Str → Int} {done : List Str} {M : Addr} {H H' : Hp} (h : IntT n T done M H) (e : Ex H H') : IntT n T done M H' := by
  obtain ⟨kvs, h1, h2, h3⟩ := h
  exact ⟨kvs, e _ _ h1, h2, h3⟩
theorem putK_len8 (c : List (Key × V)) (k : Key) (x : V) : (putK c k x).length ≤ c.length + 1 := by
  unfold putK
  by_cases e : (c.any fun kv => decide (kv.1 = k)) = true
  · rw [if_pos e, List.length_map]; omega
  · rw [if_neg e, List.length_append]; simp
theorem exs_of_ex {l : Addr} {H H' : Hp} (e : Ex H H') : Exs l H H' := Ex.s e
theorem exs_trans8 {l : Addr} {H H1 H2 : Hp} (h : Exs l H H1) (h' : Exs l H1 H2) : Exs l H H2 := fun a o hne ha => h' a o hne (h a o hne ha)
section
variable {P : Program} {w : World} {K : PySem.W.Frag} {mg : Str → Option Value} {base : Heap} {σ : L2.St} {H : Hp} {De : Ends} {tz : TS} {ta te tm tk : TE}
theorem ev_intT {n : Nat} {T : Str → Int} {done : List Str} {M : Addr} {x : Str} (hm : Ev tm σ H (.ref M)) (hk : Ev tk σ H (.str x)) (h : IntT n T done M H) (hx : x ∈ done) : Ev (tDGet tm tk) σ H (.int (T x)) := fun H1 e Q q =>
  hm H1 e _ fun H2 e2 => hk H2 (e.trans e2) _ fun H3 e3 => by
    obtain ⟨kvs, h1, _, h3⟩ := h.ex ((e.trans e2).trans e3)
    refine ⟨M, .int (T x), rfl, ?_, q H3 (e2.trans e3)⟩
    rw [← h3 x hx]
    exact DGet.k (k := Sum.inr x) h1
section
variable {st : V → Option V → Option V → Option V → L2.St} {i2 i3 i4 i5 iM : Nat} {C : List Prc} {g done : List Str} {ag M : Addr} {T : Str → Int} {n : Nat} {tc : TE} {tA : TS} {x0 y0 : Option V}
/-- the sum over a group's calls -/
theorem s_wsum (hl2 : ∀ g t x y, (st g t x y)[i2]? = some (some g)) (hl5 : ∀ g t x v, (st g t x (some v))[i5]? = some (some v)) (hs4 : ∀ g t x y v, (st g t x y).set i4 (some v) = st g t (some v) y) (hs5 : ∀ g t x y v, (st g t x y).set i5 (some v) = st g t x (some v))
    (hg : H ag = some (.tup (g.map V.str))) (hT : IntT n T done M H) (hgC : ∀ x, x ∈ g → x ∈ nms C) (hcd : ∀ n, n ∈ g → ∀ c, c ∈ callsOf C n → c ∈ done ∨ c ∈ g)
    (hcalls : ∀ t y H' p, Ex H H' → p ∈ C → EvF tc (st (.ref ag) t (some (.str p.name)) y) H' (NewLR K ((callsOf C p.name).map Da.s)))
    (hacc : ∀ (D : Ends) t x c H', Ex H H' → c ∈ done → (∀ H2, Ex H' H2 → D.nx (st (.ref ag) (some (.int (t + (1 + T c)))) x (some (.str c))) H2) → tA D (st (.ref ag) (some (.int t)) x (some (.str c))) H')
    (k : ∀ x y H', Ex H H' → De.nx (st (.ref ag) (some (.int (wtot C T g))) x y) H') :
    tFor (iTup K (tVar i2)) (gName i4) (tFor (iList K tc) (gName i5) (tIfS (tTest (tOp (rIn K true) (tVar i5) (tVar i2))) tA tNext)) De (st (.ref ag) (some (.int 0)) x0 y0) H := by
  refine s_forT (xs := g.map V.str) (ev_var (hl2 _ _ _ _)) (st_of hg) (fun i σ' H' => ∃ x y, σ' = st (.ref ag) (some (.int ((g.take i).foldl (wnam C T g) 0))) x y ∧ Ex H H') (fun H1 e => ⟨_, _, rfl, e⟩) (fun i σ' H' _ p => ?_) (fun i v σ' H' hv p => ?_) (fun σ' H' p => ?_)
  · obtain ⟨_, _, _, e⟩ := p
    exact st_of (e _ _ hg)
  · obtain ⟨x, y, rfl, e⟩ := p
    rw [List.getElem?_map, Option.map_eq_some_iff] at hv
    obtain ⟨nn, hnn, rfl⟩ := hv
    obtain ⟨p, hp, rfl⟩ := List.mem_map.mp (hgC nn (List.mem_of_getElem? hnn))
    show tFor _ _ _ _ ((st (.ref ag) (some (.int ((g.take i).foldl (wnam C T g) 0))) x y).set i4 (some (V.str p.name))) H'
    rw [hs4, take_succ_of hnn, List.foldl_append]
    generalize (g.take i).foldl (wnam C T g) 0 = t0
    show tFor _ _ _ { De with nx := _, ct := _, bk := _ } _ _
    refine hcalls _ _ H' p e hp H' (Ex.refl _) _ fun vL H2 e2 ⟨L, ws, hvL, hL, hL2, rL⟩ => ?_
    subst hvL
    have ews := reps_strs rL
    subst ews
    have hin := hcd p.name (List.mem_of_getElem? hnn)
    refine ⟨L, rfl, ⟨_, sq_of hL2⟩, for_list (xs := (callsOf C p.name).map V.str) (fun k σ' H' => ∃ y, σ' = st (.ref ag) (some (.int (((callsOf C p.name).take k).foldl (wcal C T g) t0))) (some (.str p.name)) y ∧ Ex H H' ∧ H' L = some (.lst ((callsOf C p.name).map V.str))) ⟨_, rfl, e.trans e2, hL2⟩ (fun k σ' H' _ q => ?_) (fun k v σ' H' hv q => ?_) (fun σ' H' q => ?_)⟩
    · obtain ⟨_, _, _, h⟩ := q
      exact sq_of h
    · obtain ⟨y', rfl, e3, hL3⟩ := q
      rw [List.getElem?_map, Option.map_eq_some_iff] at hv
      obtain ⟨c, hc, rfl⟩ := hv
      have hcm := List.mem_of_getElem? hc
      show tIfS _ _ _ _ ((st (.ref ag) (some (.int (((callsOf C p.name).take k).foldl (wcal C T g) t0))) (some (.str p.name)) y').set i5 (some (V.str c))) H'
      rw [hs5, take_succ_of hc, List.foldl_append]
      generalize ((callsOf C p.name).take k).foldl (wcal C T g) t0 = t1
      show tIfS _ _ _ { De with nx := _, ct := _, bk := _ } _ _
      refine s_when (et_test (ev_inStrsT (neg := true) (xs := g) (ev_var (hl5 _ _ _ _)) (ep_R (ev_var (hl2 _ _ _ _)) (td_rep (e3 _ _ hg))))) (fun hB H8 e8 => ?_) (fun hB H8 e8 => ?_)
      · have hB' : c ∉ g := by
          rw [if_pos rfl, Bool.not_eq_true', decide_eq_false_iff_not] at hB
          exact hB
        refine hacc _ _ _ _ _ (e3.trans e8) ((hin c hcm).resolve_right hB') fun H9 e9 => ⟨some (.str c), ?_, (e3.trans e8).trans e9, (e8.trans e9) _ _ hL3⟩
        show _ = st (.ref ag) (some (.int (wcal C T g t1 c))) _ _
        unfold wcal
        rw [if_neg hB']
      · have hB' : c ∈ g := by
          rw [if_pos rfl, Bool.not_eq_false', decide_eq_true_eq] at hB
          exact hB
        refine ⟨some (.str c), ?_, e3.trans e8, e8 _ _ hL3⟩
        show _ = st (.ref ag) (some (.int (wcal C T g t1 c))) _ _
        unfold wcal
        rw [if_pos hB']
    · obtain ⟨y', rfl, e3, hL3⟩ := q
      rw [List.length_map, List.take_length]
      exact ⟨_, _, rfl, e3⟩
  · obtain ⟨x, y, rfl, e⟩ := p
    rw [List.length_map, List.take_length]
    exact k _ _ _ e
/-- the group's names get the sum -/
theorem s_wput {t : Int} (hl2 : ∀ g t x y, (st g t x y)[i2]? = some (some g)) (hl3 : ∀ g t x y, (st g (some t) x y)[i3]? = some (some t)) (hl4 : ∀ g t x y, (st g t (some x) y)[i4]? = some (some x)) (hlM : ∀ g t x y, (st g t x y)[iM]? = some (some (.ref M))) (hs4 : ∀ g t x y v, (st g t x y).set i4 (some v) = st g t (some v) y)
    (hg : H ag = some (.tup (g.map V.str))) (hT : IntT n T done M H) (hn : n + g.length ≤ 1000)
    (k : ∀ x y H', Exs M H H' → IntT (n + g.length) (fun x => if x ∈ g then t else T x) (done ++ g) M H' → De.nx (st (.ref ag) (some (.int t)) x y) H') :
    tFor (iTup K (tVar i2)) (gName i4) (sDPut (tVar iM) (tVar i4) (tVar i3)) De (st (.ref ag) (some (.int t)) x0 y0) H := by
  have hMa : ag ≠ M := fun z => by
    obtain ⟨kvs, h1, _⟩ := hT
    rw [z, h1] at hg
    cases hg
  refine s_forT (xs := g.map V.str) (ev_var (hl2 _ _ _ _)) (st_of hg) (fun i σ' H' => ∃ x y, σ' = st (.ref ag) (some (.int t)) x y ∧ Exs M H H' ∧ IntT (n + i) (fun x => if x ∈ g.take i then t else T x) (done ++ g.take i) M H') (fun H1 e => ⟨_, _, rfl, Ex.s e, by simpa using hT.ex e⟩) (fun i σ' H' _ p => ?_) (fun i v σ' H' hv p => ?_) (fun σ' H' p => ?_)
  · obtain ⟨_, _, _, e, _⟩ := p
    exact st_of (e _ _ hMa hg)
  · obtain ⟨x, y, rfl, e, hTi⟩ := p
    rw [List.getElem?_map, Option.map_eq_some_iff] at hv
    obtain ⟨nn, hnn, rfl⟩ := hv
    have hil : i < g.length := (List.getElem?_eq_some_iff.mp hnn).1
    show sDPut _ _ _ _ ((st (.ref ag) (some (.int t)) x y).set i4 (some (V.str nn))) H'
    rw [hs4]
    refine (ev_var (hl3 _ _ _ _)) H' (Ex.refl _) _ fun H1 e1 => (ev_var (hlM _ _ _ _)) H1 (Ex.refl _) _ fun H2 e2 => (ev_var (hl4 _ _ _ _)) H2 (Ex.refl _) _ fun H3 e3 => ?_
    obtain ⟨kvs, h1, h2, h3⟩ := hTi.ex ((e1.trans e2).trans e3)
    refine ⟨M, _, rfl, DPut.k (k := Sum.inr nn) h1 (sz_lt (by omega)), _, _, rfl, (exs_trans8 e (Ex.s ((e1.trans e2).trans e3))).upd, putK kvs (Sum.inr nn) (.int t), upd_same, by have := putK_len8 kvs (Sum.inr nn) (.int t); omega, fun z hz => ?_⟩
    rw [valV_put, take_succ_of hnn]
    by_cases ez : z = nn
    · subst ez
      rw [if_pos rfl]
      simp
    · rw [if_neg (fun c => ez (Sum.inr.inj c))]
      have hz' : z ∈ done ++ g.take i := by
        rw [take_succ_of hnn, ← List.append_assoc] at hz
        rcases List.mem_append.mp hz with h | h
        · exact h
        · exact absurd (List.mem_singleton.mp h) ez
      rw [h3 z hz']
      simp [ez]
  · obtain ⟨x, y, rfl, e, hTi⟩ := p
    rw [List.length_map, List.take_length] at hTi
    exact k _ _ _ e hTi
end
end
def spWT (K : PySem.W.Frag) : Sp := fun vs H Q _ => ∃ (v : V) (C : List Prc), vs = [v] ∧ Rep K H v (coreDa C) ∧ OkC C ∧ RetP (fun v H => ∃ M, v = .ref M ∧ IntT 100 (wfin C) (torder C).flatten M H) H Q
def spWD (K : PySem.W.Frag) : Sp := fun vs H Q _ => ∃ (v gv : V) (C : List Prc) (g : List Str), vs = [v, gv] ∧ Rep K H v (coreDa C) ∧ OkC C ∧ g ∈ gls C ∧ Rep K H gv (td g) ∧ RetV (.int (wfin C (g.headD ""))) H Q
def spLW (K : PySem.W.Frag) : Sp := fun vs H Q _ => ∃ (v gv : V) (C : List Prc), vs = [v, gv] ∧ Rep K H v (coreDa C) ∧ OkC C ∧ IsLR K ((torder C).map td) gv H ∧ RetP (fun v H => ∃ M, v = .ref M ∧ IntT 100 (wfin C) (torder C).flatten M H) H Q
theorem wfold_step {C : List Prc} {i : Nat} {g : List Str} (hg : (torder C)[i]? = some g) : ((torder C).take (i + 1)).foldl (wstep C) (fun _ => 0) = (fun x => if x ∈ g then wtot C (((torder C).take i).foldl (wstep C) fun _ => 0) g else (((torder C).take i).foldl (wstep C) fun _ => 0) x) ∧ ((torder C).take (i + 1)).flatten = ((torder C).take i).flatten ++ g := by
  rw [take_succ_of hg]
  refine ⟨?_, by simp⟩
  rw [List.foldl_append]
  rfl
section
variable {P : Program} {w : World} {K : PySem.W.Frag} {mg : Str → Option Value} {base : Heap} {σ : L2.St} {H : Hp} {De : Ends} {tz : TS} {ta te tm tk : TE}
theorem sc_ways_table : FnScope ["core", "table", "group", "total", "name", "callee"] ["core"] (defScope (topS 14)) := ⟨rfl, rfl, rfl, by decide +kernel, rfl, by decide +kernel, by decide +kernel⟩
theorem ok_ways_table {f : Addr} {fd : FuncData} (F : FnP K "ways_table" "ways_table" (topS 14) f fd) (T : Bt mg) (h_groups_of : Has P w K mg base "groups_of" ["core"] 7 (spGrps K)) (h_calls_in : Has P w K mg base "calls_in" ["proc"] 5 (spCalls K)) (h_proc_named : Has P w K mg base "proc_named" ["core", "name"] 1 (spProc K)) : FnOk P w K mg base CX0 8 f fd ["core"] (spWT K) := by
  refine F.ok sc_ways_table (fun vs H Q E h => ?_) (fun cdv A outer s H vs Q E hr h => ?_)
  · obtain ⟨v, C, rfl, _⟩ := h
    rfl
  · obtain ⟨v, C, rfl, hv, hC, q⟩ := h
    refine ⟨_, PSs.nox
      (pss_cons (ps_set (i := 1) sc_ways_table.nd rfl (Or.inl rfl) pe_dnewK)
      (pss_cons (ps_for PassesOwn.never rfl (pi_tupK K rfl (pe_callH h_groups_of (hr.mono (by decide)) (by rfl) (pa_cons (pv 0) pa_nil))) (pg_name (i := 2) sc_ways_table.nd rfl (Or.inl rfl)) (pss_cons (ps_set (i := 3) sc_ways_table.nd rfl (Or.inl rfl) pe_int)
      (pss_cons (ps_for PassesOwn.never rfl (pi_tupK K rfl (pv 2)) (pg_name (i := 4) sc_ways_table.nd rfl (Or.inl rfl)) (pss_one (ps_for PassesOwn.never rfl (pi_listK K rfl (pe_callH h_calls_in (hr.mono (by decide)) (by rfl) (pa_cons (pe_callH h_proc_named (hr.mono (by decide)) (by rfl) (pa_cons (pv 0) (pa_cons (pv 4) pa_nil))) pa_nil))) (pg_name (i := 5) sc_ways_table.nd rfl (Or.inl rfl)) (pss_one (ps_if (pt_cmpR (op_notIn_seqK K rfl) (pv 5) (pv 2) rfl) (pss_one (ps_aug (i := 3) sc_ways_table.nd rfl (Or.inl rfl) (pe_op op_add pe_int (pe_dget (hu_of hr) (pv 1) (pv 5) (fun _ _ => rfl))) ip_add)) pss_nil)))))
      (pss_one (ps_for PassesOwn.never rfl (pi_tupK K rfl (pv 2)) (pg_name (i := 4) sc_ways_table.nd rfl (Or.inl rfl)) (pss_one (ps_dput (hu_of hr) (pv 1) (pv 4) (pv 3) rfl)))))))
      (pss_one (ps_ret (pv 1))))), ?_⟩
    refine fun M hM => ?_
    refine (?_ : tSeq _ _ _ [some v, some (.ref M), none, none, none, none] (upd H M (.dK [])))
    have e1 : Ex H (upd H M (.dK [])) := Ex.new hM
    have m1 : upd H M (.dK []) M = some (.dK []) := upd_same
    generalize upd H M (.dK []) = H1 at e1 m1
    refine (ep_callA (sp := spGrps K) (E := E0) (P := fun v H => Rep K H v (.t ((torder C).map td))) (PA := fun vs H => Reps K H vs [coreDa C]) (er_cons (ep_R (ev_var (σ := [some v, some (.ref M), none, none, none, none]) (i := 0) rfl) (hv.ex e1)) er_nil) fun vs H2 e2 r2 Q' hQ E' => by
      obtain ⟨u1, rfl, k1⟩ := reps_one r2
      exact ⟨u1, C, rfl, k1, hC, hQ⟩) H1 (Ex.refl _) _ fun vg H2 e2 rg => ?_
    unfold Rep at rg
    obtain ⟨ga, us, rfl, hga, rus⟩ := rg
    have m2 := e2 _ _ m1
    have hgM : ga ≠ M := fun z => by rw [z, m2] at hga; cases hga
    have hgl := torder_len hC
    have hul : us.length = (torder C).length := by rw [rus.len, List.length_map]
    refine ⟨ga, rfl, ⟨us, st_of hga⟩, for_tup (xs := us) (fun i σ' H' => ∃ gv t x y, σ' = [some v, some (.ref M), gv, t, x, y] ∧ Exs M H2 H' ∧ IntT (i * 6) (((torder C).take i).foldl (wstep C) fun _ => 0) ((torder C).take i).flatten M H') ⟨_, _, _, _, rfl, Ex.s (Ex.refl _), [], m2, Nat.zero_le _, fun x hx => absurd hx (by simp)⟩ (fun i σ' H' _ p => ?_) (fun i vg σ' H' hvg p => ?_) (fun σ' H' p => ?_)⟩
    · obtain ⟨_, _, _, _, _, x5, _⟩ := p
      exact st_of (x5 _ _ hgM hga)
    · obtain ⟨gv, t, x, y, rfl, x5, hT⟩ := p
      obtain ⟨d, hd, rd⟩ := rus.get hvg
      rw [List.getElem?_map, Option.map_eq_some_iff] at hd
      obtain ⟨g, hg, rfl⟩ := hd
      obtain ⟨ag, rfl, hag⟩ := rep_td rd
      have hagM : ag ≠ M := fun z => by rw [z, m2] at hag; cases hag
      obtain ⟨c1, c2, c3⟩ := torder_calls hC hg
      obtain ⟨w1, w2⟩ := wfold_step hg
      have eH : Ex H H' := exs_base hM (e1.trans e2) x5
      show tSeq _ _ _ [some v, some (.ref M), some (.ref ag), t, x, y] H'
      refine q_asg ev_c fun H6 e6 => ?_
      refine q_seq (s_wsum (K := K) (C := C) (g := g) (st := fun g t x y => [some v, some (.ref M), some g, t, x, y]) (i2 := 2) (i4 := 4) (i5 := 5) (fun _ _ _ _ => rfl) (fun _ _ _ _ => rfl) (fun _ _ _ _ _ => rfl) (fun _ _ _ _ _ => rfl) (e6 _ _ (x5 _ _ hagM hag)) (hT.ex e6) c1 c3 (fun t y H7 p e7 hp => ?_) (fun D t x c H7 e7 hc kk => ?_) (fun x y H7 e7 => ?_))
      · exact ef_callsOf (K := K) rfl rfl hC hp (ev_var rfl) (ev_var rfl) (hv.ex ((eH.trans e6).trans e7))
      · refine s_aug (f := fun i j => i + j) rfl (ev_op ev_c (ev_intT (ev_var rfl) (ev_var rfl) ((hT.ex e6).ex e7) hc) rv_I0) fun H8 e8 => kk H8 e8
      · refine s_wput (g := g) (st := fun g t x y => [some v, some (.ref M), some g, t, x, y]) (i2 := 2) (i3 := 3) (i4 := 4) (iM := 1) (fun _ _ _ _ => rfl) (fun _ _ _ _ => rfl) (fun _ _ _ _ => rfl) (fun _ _ _ _ => rfl) (fun _ _ _ _ _ => rfl) ((e6.trans e7) _ _ (x5 _ _ hagM hag)) (hT.ex (e6.trans e7)) (by have := (List.getElem?_eq_some_iff.mp hg).1; omega) fun x y H8 x8 hT8 => ?_
        refine ⟨_, _, _, _, rfl, exs_trans8 (exs_trans8 x5 (Ex.s (e6.trans e7))) x8, ?_⟩
        rw [w1, w2]
        obtain ⟨kvs, k1, k2, k3⟩ := hT8
        exact ⟨kvs, k1, by omega, k3⟩
    · obtain ⟨gv, t, x, y, rfl, x5, hT⟩ := p
      rw [hul, List.take_length] at hT
      have eH : Ex H H' := exs_base hM (e1.trans e2) x5
      refine s_ret (ev_var rfl) fun H7 e7 => q _ H7 (eH.trans e7) ⟨M, rfl, ?_⟩
      obtain ⟨kvs, k1, k2, k3⟩ := hT.ex e7
      exact ⟨kvs, k1, by omega, k3⟩
theorem sc_ways_down : FnScope ["core", "group"] ["core", "group"] (defScope (topS 15)) := ⟨rfl, rfl, rfl, by decide +kernel, rfl, by decide +kernel, by decide +kernel⟩
theorem ok_ways_down {f : Addr} {fd : FuncData} (F : FnP K "ways_down" "ways_down" (topS 15) f fd) (T : Bt mg) (h_ways_table : Has P w K mg base "ways_table" ["core"] 8 (spWT K)) : FnOk P w K mg base CX0 9 f fd ["core", "group"] (spWD K) := by
  refine F.ok sc_ways_down (fun vs H Q E h => ?_) (fun cdv A outer s H vs Q E hr h => ?_)
  · obtain ⟨v, gv, C, g, rfl, _⟩ := h
    rfl
  · obtain ⟨v, gv, C, g, rfl, hv, hC, hg, hgv, q⟩ := h
    refine ⟨_, PSs.nox
      (pss_one (ps_ret (pe_dget (hu_of hr) (pe_callH h_ways_table (hr.mono (by decide)) (by rfl) (pa_cons (pv 0) pa_nil)) (pe_ix (ix_tupK K rfl) (pv 1) pe_int (fun _ _ => rfl)) (fun _ _ => rfl)))), ?_⟩
    obtain ⟨a, r, eg, ha, _⟩ := grp_hd hC hg
    have hd : g.headD "" = a := by rw [eg]; rfl
    rw [hd] at q
    have hgv2 : Rep K H gv (.t (g.map Da.s)) := hgv
    rw [eg] at hgv2
    refine s_ret (v := .int (wfin C a)) (fun H1 e1 Q' q' => ?_) fun H2 e2 => q H2 e2
    refine (ep_callA (sp := spWT K) (E := E0) (P := fun v H => ∃ M, v = V.ref M ∧ IntT 100 (wfin C) (torder C).flatten M H) (PA := fun vs H => Reps K H vs [coreDa C]) (er_cons (ep_R (ev_var (σ := [some v, some gv]) (i := 0) rfl) hv) er_nil) fun vs H2 e2 r2 Q' hQ E' => by
      obtain ⟨u1, rfl, k1⟩ := reps_one r2
      exact ⟨u1, C, rfl, k1, hC, hQ⟩) H1 e1 _ fun vM H2 e2 ⟨M, hM, hT⟩ => ?_
    subst hM
    refine (ev_ixRs (K := K) (i := 0) (ev_var (σ := [some v, some gv]) (i := 1) rfl) (hgv2.ex (e1.trans e2)) rfl) H2 (Ex.refl _) _ fun H3 e3 => ?_
    obtain ⟨kvs, k1, _, k3⟩ := hT.ex e3
    refine ⟨M, .int (wfin C a), rfl, ?_, q' H3 (e2.trans e3)⟩
    rw [← k3 a (torder_all hC ha)]
    exact DGet.k (k := Sum.inr a) k1
end
end K88

set_option maxHeartbeats 4000000
namespace K88
open PySem L2 Evl
section
variable {P : Program} {w : World} {K : PySem.W.Frag} {mg : Str → Option Value} {base : Heap} {σ : L2.St} {H : Hp} {De : Ends} {tz : TS} {ta te tm tk : TE}
theorem sc_law_ways : FnScope ["core", "groups", "table", "group", "total", "name", "callee", "p"] ["core", "groups"] (defScope (topS 38)) := ⟨rfl, rfl, rfl, by decide +kernel, rfl, by decide +kernel, by decide +kernel⟩
theorem ok_law_ways {f : Addr} {fd : FuncData} (F : FnP K "_law_ways" "_law_ways" (topS 38) f fd) (T : Bt mg) (h_law_callees : Has P w K mg base "_law_callees" ["p"] 5 (spCalls K)) : FnOk P w K mg base CX0 6 f fd ["core", "groups"] (spLW K) := by
  refine F.ok sc_law_ways (fun vs H Q E h => ?_) (fun cdv A outer s H vs Q E hr h => ?_)
  · obtain ⟨v, gv, C, rfl, _⟩ := h
    rfl
  · obtain ⟨v, gv, C, rfl, hv, hC, ⟨ga, us, rfl, hga0, rus0⟩, q⟩ := h
    refine ⟨_, PSs.nox
      (pss_cons (ps_set (i := 2) sc_law_ways.nd rfl (Or.inl rfl) pe_dnewK)
      (pss_cons (ps_for PassesOwn.never rfl (pi_listK K rfl (pv 1)) (pg_name (i := 3) sc_law_ways.nd rfl (Or.inl rfl)) (pss_cons (ps_set (i := 4) sc_law_ways.nd rfl (Or.inl rfl) pe_int)
      (pss_cons (ps_for PassesOwn.never rfl (pi_tupK K rfl (pv 3)) (pg_name (i := 5) sc_law_ways.nd rfl (Or.inr rfl)) (pss_one (ps_for PassesOwn.never rfl (pi_listK K rfl (pe_callH h_law_callees (hr.mono (by decide)) (by rfl) (pa_cons (pe_ix (ix_listK K rfl) (pe_lc (own := [("p", 7)])  rfl sc_law_ways.nd  (pi_tupK K rfl (pv 0)) (blkOk_by (own := [("p", 7)]) (N := ["core", "groups", "table", "group", "total", "name", "callee", "p"]) (sc := defScope (topS 38)) (by decide +kernel)) (fun _ _ _ _ _ => (pg_name (i := 7) sc_law_ways.nd rfl (Or.inl rfl))) (fun _ _ _ _ _ => (pts_one (pt_cmpR op_eq (pe_ix (ix_tupK K rfl) (pv 7) pe_int (fun _ _ => rfl)) (pv 5) (nomark _)))) (fun _ _ _ _ _ => (pv 7))) pe_int (fun _ _ => rfl)) pa_nil))) (pg_name (i := 6) sc_law_ways.nd rfl (Or.inl rfl)) (pss_one (ps_if (pt_cmpR (op_notIn_seqK K rfl) (pv 6) (pv 3) rfl) (pss_one (ps_set (i := 4) sc_law_ways.nd rfl (Or.inl rfl) (pe_op op_add (pe_op op_add (pv 4) pe_int) (pe_dget (hu_of hr) (pv 2) (pv 6) (fun _ _ => rfl))))) pss_nil)))))
      (pss_one (ps_for PassesOwn.never rfl (pi_tupK K rfl (pv 3)) (pg_name (i := 5) sc_law_ways.nd rfl (Or.inr rfl)) (pss_one (ps_dput (hu_of hr) (pv 2) (pv 5) (pv 4) rfl)))))))
      (pss_one (ps_ret (pv 2))))), ?_⟩
    have hv0 := hv
    unfold coreDa Rep at hv
    obtain ⟨ca, cus, rfl, hca, hcr⟩ := hv
    have h6 := hC.n6
    refine fun M hM => ?_
    refine (?_ : tSeq _ _ _ [some (.ref ca), some (.ref ga), some (.ref M), none, none, none, none, none] (upd H M (.dK [])))
    have e1 : Ex H (upd H M (.dK [])) := Ex.new hM
    have m2 : upd H M (.dK []) M = some (.dK []) := upd_same
    generalize upd H M (.dK []) = H2 at e1 m2
    have hga := e1 _ _ hga0
    have rus := rus0.ex e1
    have hgM : ga ≠ M := fun z => by rw [z, m2] at hga; cases hga
    have hgl := torder_len hC
    have hul : us.length = (torder C).length := by rw [rus.len, List.length_map]
    refine q_seq (s_forL (xs := us) (g := gName 3) (ev_var rfl) (sq_of hga) (fun i σ' H' => ∃ gv t x y, σ' = [some (.ref ca), some (.ref ga), some (.ref M), gv, t, x, y, none] ∧ Exs M H2 H' ∧ IntT (i * 6) (((torder C).take i).foldl (wstep C) fun _ => 0) ((torder C).take i).flatten M H') (fun H3 e3 => ⟨_, _, _, _, rfl, Ex.s e3, [], e3 _ _ m2, Nat.zero_le _, fun x hx => absurd hx (by simp)⟩) (fun i σ' H' _ p => ?_) (fun i vg σ' H' hvg p => ?_) (fun σ' H' p => ?_))
    · obtain ⟨_, _, _, _, _, x5, _⟩ := p
      exact sq_of (x5 _ _ hgM hga)
    · obtain ⟨gv, t, x, y, rfl, x5, hT⟩ := p
      obtain ⟨d, hd, rd⟩ := rus.get hvg
      rw [List.getElem?_map, Option.map_eq_some_iff] at hd
      obtain ⟨g, hg, rfl⟩ := hd
      obtain ⟨ag, rfl, hag⟩ := rep_td rd
      have hagM : ag ≠ M := fun z => by rw [z, m2] at hag; cases hag
      obtain ⟨c1, c2, c3⟩ := torder_calls hC hg
      obtain ⟨w1, w2⟩ := wfold_step hg
      have eH : Ex H H' := exs_base hM e1 x5
      show tSeq _ _ _ [some (.ref ca), some (.ref ga), some (.ref M), some (.ref ag), t, x, y, none] H'
      refine q_asg ev_c fun H6 e6 => ?_
      refine q_seq (s_wsum (K := K) (C := C) (g := g) (st := fun g t x y => [some (.ref ca), some (.ref ga), some (.ref M), some g, t, x, y, none]) (i2 := 3) (i4 := 5) (i5 := 6) (fun _ _ _ _ => rfl) (fun _ _ _ _ => rfl) (fun _ _ _ _ _ => rfl) (fun _ _ _ _ _ => rfl) (e6 _ _ (x5 _ _ hagM hag)) (hT.ex e6) c1 c3 (fun t y H7 p e7 hp => ?_) (fun D t x c H7 e7 hc kk => ?_) (fun x y H7 e7 => ?_))
      · have e07 := (eH.trans e6).trans e7
        have h0 : ((C.filter fun q => decide (q.name = p.name)).map Prc.da)[0]? = some p.da := by rw [List.getElem?_map, find_head (find_of hC hp)]; rfl
        refine ef_callRA (PA := fun vs H => Reps K H vs [p.da]) (er_cons (ev_ixN (i := 0) (ep_LR (ef_lcT (K := K) (b := C) (f := fun q => decide (q.name = p.name)) (g0 := Prc.da) (e := Prc.da) (ev_var rfl) (e07 _ _ hca) (hcr.ex e07) (by omega) fun i q v' Hb hb eb rb => ⟨_, tgt_name, rfl, ?_, fun _ => ep_R (ev_var rfl) rb⟩)) h0) er_nil) fun vs H8 e8 r8 Q' hQ E' => ?_
        · rw [prc_da] at rb
          exact et_strs (ev_ixRs (i := 0) (ev_var rfl) rb rfl) (ev_var rfl)
        · obtain ⟨u1, rfl, k1⟩ := reps_one r8
          rw [callsOf_of hC hp] at hQ
          exact ⟨u1, p, rfl, k1, (hC.ok p hp).wb, hQ⟩
      · refine s_asg (v := .int (t + (1 + (((torder C).take i).foldl (wstep C) fun _ => 0) c))) (ev_is (ev_op (ev_op (ev_var rfl) ev_c rv_I0) (ev_intT (ev_var rfl) (ev_var rfl) ((hT.ex e6).ex e7) hc) rv_I0) (by rw [Int.add_assoc])) fun H8 e8 => kk H8 e8
      · refine s_wput (g := g) (st := fun g t x y => [some (.ref ca), some (.ref ga), some (.ref M), some g, t, x, y, none]) (i2 := 3) (i3 := 4) (i4 := 5) (iM := 2) (fun _ _ _ _ => rfl) (fun _ _ _ _ => rfl) (fun _ _ _ _ => rfl) (fun _ _ _ _ => rfl) (fun _ _ _ _ _ => rfl) ((e6.trans e7) _ _ (x5 _ _ hagM hag)) (hT.ex (e6.trans e7)) (by have := (List.getElem?_eq_some_iff.mp hg).1; omega) fun x y H8 x8 hT8 => ?_
        refine ⟨_, _, _, _, rfl, exs_trans8 (exs_trans8 x5 (Ex.s (e6.trans e7))) x8, ?_⟩
        rw [w1, w2]
        obtain ⟨kvs, k1, k2, k3⟩ := hT8
        exact ⟨kvs, k1, by omega, k3⟩
    · obtain ⟨gv, t, x, y, rfl, x5, hT⟩ := p
      rw [hul, List.take_length] at hT
      have eH : Ex H H' := exs_base hM e1 x5
      refine s_ret (ev_var rfl) fun H7 e7 => q _ H7 (eH.trans e7) ⟨M, rfl, ?_⟩
      obtain ⟨kvs, k1, k2, k3⟩ := hT.ex e7
      exact ⟨kvs, k1, by omega, k3⟩
end
end K88

set_option maxHeartbeats 4000000
namespace K88
open PySem L2 Evl
/-! ### the law's pairs -/
theorem nodup_sub_len8 {α : Type} [DecidableEq α] : ∀ {A B : List α}, A.Nodup → (∀ x, x ∈ A → x ∈ B) → A.length ≤ B.length
  | [], B, _, _ => Nat.zero_le _
  | a :: A, B, h, hs => by
    obtain ⟨h1, h2⟩ := List.nodup_cons.mp h
    have hm := hs a List.mem_cons_self
    have h3 := nodup_sub_len8 (A := A) (B := B.erase a) h2 fun x hx => (List.mem_erase_of_ne (fun z : x = a => h1 (z ▸ hx))).mpr (hs x (List.mem_cons_of_mem _ hx))
    rw [List.length_erase_of_mem hm] at h3
    have := List.length_pos_of_mem hm
    rw [List.length_cons]
    omega
def ddp (xs : PS2) : PS2 := (xs.zipIdx.filter fun q => decide (q.1 ∉ xs.take q.2)).map (·.1)
theorem ddp_snoc (xs : PS2) (x : Str × Str) : ddp (xs ++ [x]) = ddp xs ++ (if x ∈ xs then [] else [x]) := by
  unfold ddp
  rw [List.zipIdx_append, List.filter_append, List.map_append]
  congr 1
  · congr 1
    refine List.filter_congr fun q hq => ?_
    obtain ⟨y, i⟩ := q
    have hi : i < xs.length := by
      have := List.mem_zipIdx_iff_getElem?.mp hq
      exact (List.getElem?_eq_some_iff.mp this).1
    dsimp only
    rw [List.take_append_of_le_length (by omega)]
  · have e1 : [x].zipIdx (0 + xs.length) = [(x, xs.length)] := by simp
    rw [e1]
    have e2 : (xs ++ [x]).take xs.length = xs := by simp
    by_cases h : x ∈ xs
    · rw [if_pos h]
      simp [h]
    · rw [if_neg h]
      simp [h]
theorem snoc_ind {α : Type} {p : List α → Prop} (h0 : p []) (hs : ∀ xs x, p xs → p (xs ++ [x])) (xs : List α) : p xs := by
  have key : ∀ ys : List α, p ys.reverse := fun ys => by
    induction ys with
    | nil => exact h0
    | cons y ys ih => rw [List.reverse_cons]; exact hs _ _ ih
  have := key xs.reverse
  rwa [List.reverse_reverse] at this
theorem ddp_mem (xs : PS2) : ∀ x, x ∈ ddp xs ↔ x ∈ xs := by
  induction xs using snoc_ind with
  | h0 => intro x; simp [ddp]
  | hs xs y ih =>
    intro x
    rw [ddp_snoc, List.mem_append, List.mem_append, ih]
    by_cases h : y ∈ xs
    · rw [if_pos h]
      constructor
      · rintro (h | h)
        · exact .inl h
        · cases h
      · rintro (h' | h')
        · exact .inl h'
        · exact .inl (List.mem_singleton.mp h' ▸ h)
    · rw [if_neg h]
theorem ddp_nd (xs : PS2) : (ddp xs).Nodup := by
  induction xs using snoc_ind with
  | h0 => simp [ddp]
  | hs xs y ih =>
    rw [ddp_snoc]
    by_cases h : y ∈ xs
    · rw [if_pos h, List.append_nil]; exact ih
    · rw [if_neg h]
      refine List.nodup_append.mpr ⟨ih, by simp, fun a ha b hb e => ?_⟩
      rw [List.mem_singleton] at hb
      exact h ((ddp_mem xs y).mp (hb ▸ e ▸ ha))
def sqr (ps : PS2) : PS2 := ps.flatMap fun x => (ps.filter fun y => decide (y.1 = x.2)).map fun y => (x.1, y.2)
theorem mem_sqr {ps : PS2} {u v : Str} : (u, v) ∈ sqr ps ↔ ∃ m, (u, m) ∈ ps ∧ (m, v) ∈ ps := by
  unfold sqr
  rw [List.mem_flatMap]
  constructor
  · rintro ⟨⟨a, b⟩, h1, h2⟩
    obtain ⟨⟨c, d⟩, h3, h4⟩ := List.mem_map.mp h2
    obtain ⟨h5, h6⟩ := List.mem_filter.mp h3
    have h7 := of_decide_eq_true h6
    injection h4 with h8 h9
    dsimp only at h7 h8 h9
    subst h7 h8 h9
    exact ⟨_, h1, h5⟩
  · rintro ⟨m, h1, h2⟩
    exact ⟨(u, m), h1, List.mem_map.mpr ⟨(m, v), List.mem_filter.mpr ⟨h2, decide_eq_true rfl⟩, rfl⟩⟩
def prs0 (C : List Prc) : PS2 := C.flatMap fun p => (C.filter fun q => decide (q.name = p.name) || decide (q.name ∈ p.calls)).map fun q => (p.name, q.name)
theorem prs0_snd {C : List Prc} (hC : OkC C) : SndP C (prs0 C) := fun x hx => by
  obtain ⟨p, hp, hx⟩ := List.mem_flatMap.mp hx
  obtain ⟨q, hq, rfl⟩ := List.mem_map.mp hx
  obtain ⟨hq, h⟩ := List.mem_filter.mp hq
  have hpn : p.name ∈ nms C := List.mem_map_of_mem hp
  rw [Bool.or_eq_true, decide_eq_true_eq, decide_eq_true_eq] at h
  rcases h with h | h
  · show Rc C p.name q.name
    rw [h]
    exact .refl hpn
  · exact edg_rc hpn (by unfold Edg; rw [callsOf_of hC hp]; exact h)
theorem prs0_all {C : List Prc} (hC : OkC C) : AllP C 1 (prs0 C) := fun u v hu w => by
  obtain ⟨p, hp, rfl⟩ := List.mem_map.mp hu
  have key : ∀ q, q ∈ C → q.name = v → (q.name = p.name ∨ q.name ∈ p.calls) → (p.name, v) ∈ prs0 C := fun q hq e h => by
    subst e
    refine List.mem_flatMap.mpr ⟨p, hp, List.mem_map.mpr ⟨q, List.mem_filter.mpr ⟨hq, ?_⟩, rfl⟩⟩
    rw [Bool.or_eq_true, decide_eq_true_eq, decide_eq_true_eq]
    exact h
  rcases w with w | ⟨m, e, w⟩
  · have w' : p.name = v := w
    exact key p hp w' (.inl rfl)
  · have w' : m = v := w
    subst w'
    have hm := calls_nm hC e
    obtain ⟨q, hq, rfl⟩ := List.mem_map.mp hm
    refine key q hq rfl (.inr ?_)
    unfold Edg at e
    rwa [callsOf_of hC hp] at e
theorem snd_len {C : List Prc} (hC : OkC C) {ps : PS2} (h : SndP C ps) (nd : ps.Nodup) : ps.length ≤ 36 := by
  have h1 := nodup_sub_len8 (B := (nms C).flatMap fun u => (nms C).map fun v => (u, v)) nd fun q hq => by
    obtain ⟨u, v⟩ := q
    have := h _ hq
    exact List.mem_flatMap.mpr ⟨u, this.nm1, List.mem_map.mpr ⟨v, this.nm hC, rfl⟩⟩
  have h2 := flatMap_len (fun u => (nms C).map fun v => (u, v)) 6 (nms C) fun x _ => by
    rw [List.length_map, nms_len]
    exact hC.n6
  rw [nms_len] at h2
  have := hC.n6
  omega
theorem prs0_len {C : List Prc} (hC : OkC C) : (prs0 C).length ≤ 36 := by
  have h2 := flatMap_len (fun p => (C.filter fun q => decide (q.name = p.name) || decide (q.name ∈ p.calls)).map fun q => (p.name, q.name)) 6 C fun x _ => by
    rw [List.length_map]
    exact Nat.le_trans (List.length_filter_le _ _) hC.n6
  have := hC.n6
  unfold prs0
  omega
def unp (k : List Str) : Str × Str := (k.headD "", k.tail.headD "")
theorem unp_pd (q : Str × Str) : unp (pd q) = q := rfl
end K88

set_option maxHeartbeats 4000000
namespace K88
open PySem L2 Evl
def spRch (K : PySem.W.Frag) : Sp := fun vs H Q _ => ∃ (v : V) (C : List Prc), vs = [v] ∧ Rep K H v (coreDa C) ∧ OkC C ∧
  ∀ (a : Addr) (us : List V) (H2 : Hp) (ps : PS2), H a = none → Ex H H2 → H2 a = some (.lst us) → Reps K H2 us (ps.map pdd) → (∀ u v, (u, v) ∈ ps ↔ Rc C u v) → ps.length ≤ 36 → Q (.ref a) H2
section
variable {K : PySem.W.Frag} {σ : L2.St} {H H' H0 : Hp} {ta tb te tl : TE} {D : Ends} {tu tz : TS} {ds : List Da} {α β : Type} {b : List α} {tg : TG} {a : Addr} {vs : List V}
/-- over a list that stands, any target -/
theorem s_accLE {g : α → Da} {f : α → List Da} {SI : Addr → L2.St → Prop} {l0 : List Da} (h : Ev tl σ H (.ref a)) (hx : H0 a = some (.lst vs)) (hr : Reps K H0 vs (b.map g)) (h0 : Acc K H0 SI l0 σ H)
    (hs : ∀ (i : Nat) (x : α) (v : V) σ' H', b[i]? = some x → Rep K H' v (g x) → Acc K H0 SI (l0 ++ (b.take i).flatMap f) σ' H' → tg v σ' H' fun σ2 H2 => tu { D with nx := Acc K H0 SI (l0 ++ (b.take i).flatMap f ++ f x), ct := Acc K H0 SI (l0 ++ (b.take i).flatMap f ++ f x), bk := D.nx } σ2 H2)
    (hd : ∀ σ' H', Acc K H0 SI (l0 ++ b.flatMap f) σ' H' → D.nx σ' H') : tFor (iList K tl) tg tu D σ H := by
  have hl : vs.length = b.length := by rw [hr.len, List.length_map]
  have e0 : Ex H0 H := by obtain ⟨_, _, e, _⟩ := h0; exact e
  refine s_forL h (sq_of (e0 _ _ hx)) (fun i => Acc K H0 SI (l0 ++ (b.take i).flatMap f)) (fun H1 e1 => ?_) (fun i σ' H' _ p => ?_) (fun i v σ' H' hv p => ?_) (fun σ' H' p => ?_)
  · obtain ⟨F, us, e, hF, si, hf, r⟩ := h0
    exact ⟨F, us, e.trans e1, hF, si, e1 _ _ hf, by simpa using r.ex e1⟩
  · obtain ⟨_, _, e, _⟩ := p
    exact sq_of (e _ _ hx)
  · obtain ⟨d, hd, rd⟩ := hr.get hv
    rw [List.getElem?_map, Option.map_eq_some_iff] at hd
    obtain ⟨x, hx', rfl⟩ := hd
    have e' : Ex H0 H' := by obtain ⟨_, _, e, _⟩ := p; exact e
    have := hs i x v σ' H' hx' (rd.ex e') p
    rw [List.append_assoc, show (b.take i).flatMap f ++ f x = (b.take (i + 1)).flatMap f by rw [take_succ_of hx']; simp] at this
    exact this
  · rw [hl, List.take_length] at p
    exact hd σ' H' p
/-- over range(n) -/
theorem ef_lcR {f : α → Bool} {e : α → Da} {j : Nat} {n : Int} {tt : TT} {ta : TA} {ws : List Nat} (hn : n = (b.length : Int)) (hz : b.length ≤ 100000) (h : EvA ta σ H [.int n])
    (ht : ∀ (i : Nat) (x : α) (Hb : Hp), b[i]? = some x → Ex H Hb → wipe ((wipe σ ws).set j (some (.int (i : Int)))) ws = wipe σ ws ∧ EvT tt ((wipe σ ws).set j (some (.int (i : Int)))) Hb (f x) ∧ (f x = true → EvP te ((wipe σ ws).set j (some (.int (i : Int)))) Hb (fun v H => Rep K H v (e x)))) :
    EvF (tLc (iRng1 ta) (gName j) tt te ws) σ H (NewLR K ((b.filter f).map e)) := by
  subst hn
  refine ef_lcW hz (ei_rng1 h (by omega) (by omega)) (show Walk (Itr 0 (b.length : Int).toNat) b.length _ _ from by rw [Int.toNat_natCast]; exact walk_range) (fun _ _ => trivial) fun i x v Ha Hb hb ea y => ?_
  obtain ⟨h3, h4⟩ := y
  subst h3
  have h5 : v = V.int (i : Int) := by rw [h4]; simp
  subst h5
  obtain ⟨t1, t2, t3⟩ := ht i x _ hb ea
  exact ⟨Ex.refl _, _, tgt_name, t1, t2, t3⟩
/-- the first of a list's places -/
theorem ep_takeL {F : Addr} {us : List V} {k : Nat} (h : Ev te σ H (.ref F)) (hk : Ev tb σ H (.int (k : Int))) (hf : H F = some (.lst us)) (hr : Reps K H us ds) (hkl : k ≤ ds.length) : EvP (tSl (rSlL K) te tNoPart (tPart tb)) σ H (IsLR K (ds.take k)) := by
  have c : cutV us none (some (k : Int)) = us.take k := by
    unfold cutV
    rw [HT.sIx_none, HT.sIx_nat, hr.len, Nat.min_eq_left hkl, List.drop_zero, Nat.sub_zero]
  have h2 := el_sl (K := K) h eo_none (eo_some hk) (sq_of hf)
  rw [c] at h2
  exact fun H1 e Q q => h2 H1 e _ fun p H2 hp e2 hL => q _ H2 e2 ⟨p, _, rfl, hL, (hr.take k).ex (e.trans e2)⟩
/-- sorted of pairs -/
theorem ef_sortP {ps : PS2} (h : EvP tl σ H (IsLR K (ps.map pdd))) (hl : ps.length < 1000) : ∀ H1, Ex H H1 → ∀ Q : VK, (∀ p us H2 (qs : PS2), H1 p = none → Ex H1 H2 → H2 p = some (.lst us) → Reps K H2 us (qs.map pdd) → qs.Perm ps → Q (.ref p) H2) → tCB (rSortL8 K) (tCons tl tNil) σ H1 Q := fun H1 e Q q =>
  h H1 e _ fun v H2 e2 ⟨p, us, hv, hp, r⟩ => by
    subst hv
    rw [pdd_map] at r
    obtain ⟨L, rfl, eL, hR⟩ := rows_of r
    have hmem : ∀ x, x ∈ L → pd (unp x.2) = x.2 := fun x hx => by
      have : x.2 ∈ ps.map pd := by rw [← eL]; exact List.mem_map_of_mem hx
      obtain ⟨q, _, e⟩ := List.mem_map.mp this
      rw [← e]
      rfl
    refine ⟨p, L, rfl, sq_of hp, hR, fun x hx z => ?_, ?_, fun L' a hperm _ ha => ?_⟩
    · have := hmem x hx
      rw [z] at this
      cases this
    · have := congrArg List.length eL
      rw [List.length_map, List.length_map] at this
      omega
    · have hR' : Rows8 (upd H2 a (.lst (L'.map fun q => V.ref q.1))) L' := fun x hx => Ex.new ha _ _ (hR x (hperm.mem_iff.mp hx))
      have e3 : L'.map (·.2) = (L'.map fun x => unp x.2).map pd := by
        rw [List.map_map]
        exact List.map_congr_left fun x hx => (hmem x (hperm.mem_iff.mp hx)).symm
      refine q a _ _ (L'.map fun x => unp x.2) (fresh_back e2 ha) (e2.trans (Ex.new ha)) upd_same ?_ ?_
      · rw [pdd_map, ← e3]
        exact of_rows hR'
      · have e4 : ps = L.map fun x => unp x.2 := by
          have := congrArg (List.map unp) eL
          rw [List.map_map, List.map_map] at this
          rw [show (L.map fun x => unp x.2) = L.map (unp ∘ (·.2)) from rfl, this]
          simp [Function.comp_def, unp_pd]
        rw [e4]
        exact hperm.map _
end
section
variable {P : Program} {w : World} {K : PySem.W.Frag} {mg : Str → Option Value} {base : Heap} {σ : L2.St} {H : Hp} {De : Ends} {tz : TS} {ta te tm tk : TE}
theorem sc_law_reach : FnScope ["core", "pairs", "p", "called", "turn", "more", "one", "middle", "q", "k", "first", "last"] ["core"] (defScope (topS 36)) := ⟨rfl, rfl, rfl, by decide +kernel, rfl, by decide +kernel, by decide +kernel⟩
theorem ok_law_reach {f : Addr} {fd : FuncData} (F : FnP K "_law_reach" "_law_reach" (topS 36) f fd) (T : Bt mg) (h_law_callees : Has P w K mg base "_law_callees" ["p"] 5 (spCalls K)) : FnOk P w K mg base CX0 6 f fd ["core"] (spRch K) := by
  refine F.ok sc_law_reach (fun vs H Q E h => ?_) (fun cdv A outer s H vs Q E hr h => ?_)
  · obtain ⟨v, C, rfl, _⟩ := h
    rfl
  · obtain ⟨v, C, rfl, hv, hC, q⟩ := h
    refine ⟨_, PSs.nox
      (pss_cons (ps_set (i := 1) sc_law_reach.nd rfl (Or.inl rfl) (pe_lst pa_nil))
      (pss_cons (ps_for PassesOwn.never rfl (pi_tupK K rfl (pv 0)) (pg_name (i := 2) sc_law_reach.nd rfl (Or.inr rfl)) (pss_cons (ps_set (i := 3) sc_law_reach.nd rfl (Or.inr rfl) (pe_callH h_law_callees (hr.mono (by decide)) (by rfl) (pa_cons (pv 2) pa_nil)))
      (pss_one (ps_set (i := 1) sc_law_reach.nd rfl (Or.inl rfl) (pe_op op_cat (pv 1) (pe_lc (own := [("q", 8)])  rfl sc_law_reach.nd  (pi_tupK K rfl (pv 0)) (blkOk_by (own := [("q", 8)]) (N := ["core", "pairs", "p", "called", "turn", "more", "one", "middle", "q", "k", "first", "last"]) (sc := defScope (topS 36)) (by decide +kernel)) (fun _ _ _ _ _ => (pg_name (i := 8) sc_law_reach.nd rfl (Or.inl rfl))) (fun _ _ _ _ _ => (pts_one (PW.pt (pw_or (pt_cmpR op_eq (pe_ix (ix_tupK K rfl) (pv 8) pe_int (fun _ _ => rfl)) (pe_ix (ix_tupK K rfl) (pv 2) pe_int (fun _ _ => rfl)) (nomark _)) (pw_or1 (pt_cmpR (op_in_seqK K rfl) (pe_ix (ix_tupK K rfl) (pv 8) pe_int (fun _ _ => rfl)) (pv 3) rfl)))))) (fun _ _ _ _ _ => (pe_tup (pa_cons (pe_ix (ix_tupK K rfl) (pv 2) pe_int (fun _ _ => rfl)) (pa_cons (pe_ix (ix_tupK K rfl) (pv 8) pe_int (fun _ _ => rfl)) pa_nil))))))))))
      (pss_cons (ps_for PassesOwn.never rfl (pi_range1 (by rfl) T.m_range (pa_cons (pe_callB (call_lenK K rfl) (by rfl) T.m_len (by decide +kernel) (pa_cons (pv 0) pa_nil)) pa_nil)) (pg_name (i := 4) sc_law_reach.nd rfl (Or.inl rfl)) (pss_cons (ps_set (i := 5) sc_law_reach.nd rfl (Or.inr rfl) (pe_lst pa_nil))
      (pss_cons (ps_for PassesOwn.never rfl (pi_listK K rfl (pv 1)) (pg_tupK K rfl (n := 2) rfl (pgs_cons (pg_name (i := 6) sc_law_reach.nd rfl (Or.inr rfl)) (pgs_cons (pg_name (i := 7) sc_law_reach.nd rfl (Or.inr rfl)) pgs_nil))) (pss_one (ps_set (i := 5) sc_law_reach.nd rfl (Or.inr rfl) (pe_op op_cat (pv 5) (pe_lc (own := [("first", 10), ("last", 11)])  rfl sc_law_reach.nd  (pi_listK K rfl (pv 1)) (blkOk_by (own := [("first", 10), ("last", 11)]) (N := ["core", "pairs", "p", "called", "turn", "more", "one", "middle", "q", "k", "first", "last"]) (sc := defScope (topS 36)) (by decide +kernel)) (fun _ _ _ _ _ => (pg_tupK K rfl (n := 2) rfl (pgs_cons (pg_name (i := 10) sc_law_reach.nd rfl (Or.inl rfl)) (pgs_cons (pg_name (i := 11) sc_law_reach.nd rfl (Or.inl rfl)) pgs_nil)))) (fun _ _ _ _ _ => (pts_one (pt_cmpR op_eq (pv 10) (pv 7) (nomark _)))) (fun _ _ _ _ _ => (pe_tup (pa_cons (pv 6) (pa_cons (pv 11) pa_nil)))))))))
      (pss_one (ps_set (i := 1) sc_law_reach.nd rfl (Or.inl rfl) (pe_callB cr_sortL8 (by rfl) T.m_sorted (by decide +kernel) (pa_cons (pe_lc (own := [("k", 9)])  rfl sc_law_reach.nd  (pi_range1 (by rfl) T.m_range (pa_cons (pe_callB (call_lenK K rfl) (by rfl) T.m_len (by decide +kernel) (pa_cons (pv 5) pa_nil)) pa_nil)) (blkOk_by (own := [("k", 9)]) (N := ["core", "pairs", "p", "called", "turn", "more", "one", "middle", "q", "k", "first", "last"]) (sc := defScope (topS 36)) (by decide +kernel)) (fun _ _ _ _ _ => (pg_name (i := 9) sc_law_reach.nd rfl (Or.inl rfl))) (fun _ _ _ _ _ => (pts_one (pt_cmpR (op_notIn8 hr.units) (pe_ix (ix_listK K rfl) (pv 5) (pv 9) (fun _ _ => rfl)) (pe_slice (sl_listK K rfl) (pv 5) po_none (po_some (pv 9))) rfl))) (fun _ _ _ _ _ => (pe_ix (ix_listK K rfl) (pv 5) (pv 9) (fun _ _ => rfl)))) pa_nil)))))))
      (pss_one (ps_ret (pv 1)))))), ?_⟩
    have hv0 := hv
    unfold coreDa Rep at hv
    obtain ⟨a, us, rfl, ha, hr2⟩ := hv
    have h6 := hC.n6
    have hul : us.length = C.length := by rw [hr2.len, List.length_map]
    refine q_asgR (ef_nil K) fun F us0 H1 hF e1 h1 r1 => ?_
    refine q_accT (b := C) (g := Prc.da) (f := fun p => ((C.filter fun q => decide (q.name = p.name) || decide (q.name ∈ p.calls)).map fun q => pdd (p.name, q.name))) (l0 := []) (H0 := H) (SI := fun F σ => ∃ x2 x3 x4 x5 x6 x7, σ = [some (.ref a), some (.ref F), x2, x3, x4, x5, x6, x7, none, none, none, none]) (ev_var rfl) ha hr2 ⟨F, us0, e1, hF, ⟨_, _, _, _, _, _, rfl⟩, h1, r1⟩ ?_ ?_
    · rintro i p vp σ' H' hp hvp ⟨F, us, e, hF, ⟨x2, x3, x4, x5, x6, x7, rfl⟩, hf, r⟩
      have hpC := List.mem_of_getElem? hp
      have hz : (([] : List Da) ++ (C.take i).flatMap fun p => ((C.filter fun q => decide (q.name = p.name) || decide (q.name ∈ p.calls)).map fun q => pdd (p.name, q.name))).length ≤ 36 := by
        rw [List.nil_append]
        refine Nat.le_trans (flatMap_len _ 6 _ fun p hp => ?_) (Nat.mul_le_mul_right 6 (Nat.le_trans (List.length_take_le' ..) h6))
        rw [List.length_map]
        exact Nat.le_trans (List.length_filter_le _ _) h6
      generalize (([] : List Da) ++ (C.take i).flatMap fun p => ((C.filter fun q => decide (q.name = p.name) || decide (q.name ∈ p.calls)).map fun q => pdd (p.name, q.name))) = l0 at hz r ⊢
      have hvp0 := hvp
      rw [prc_da] at hvp
      show tSeq _ _ _ [some (V.ref a), some (.ref F), some vp, x3, x4, x5, x6, x7, none, none, none, none] H'
      refine q_asgR (ds := p.calls.map Da.s) (ef_callR (sp := spCalls K) (E := E0) (ea_cons (ev_var (i := 2) rfl) ea_nil) fun H2 e2 Q' hQ E' => ⟨vp, p, rfl, hvp0.ex e2, (hC.ok p hpC).wb, hQ⟩) fun Ca uc H2 hCa e2 h2 r2 => ?_
      have ecs := reps_strs r2
      subst ecs
      have hcomp := ef_lcT (K := K) (σ := [some (V.ref a), some (.ref F), some vp, some (.ref Ca), x4, x5, x6, x7, none, none, none, none]) (H := H2) (b := C) (g0 := Prc.da) (f := fun q => decide (q.name = p.name) || decide (q.name ∈ p.calls)) (e := fun q => pdd (p.name, q.name)) (vs := [8]) (tg := gName 8) (tt := tOr (tTest (tOp rEq (tOp (rIxT K) (tVar 8) (tC (V.int 0))) (tOp (rIxT K) (tVar 2) (tC (V.int 0))))) (tTest (tOp (rIn K false) (tOp (rIxT K) (tVar 8) (tC (V.int 0))) (tVar 3)))) (te := tTup (tCons (tOp (rIxT K) (tVar 2) (tC (V.int 0))) (tCons (tOp (rIxT K) (tVar 8) (tC (V.int 0))) tNil))) (tl := tVar 0) (ev_var rfl) ((e.trans e2) _ _ ha) (hr2.ex (e.trans e2)) (by omega) (fun i q v' Hb hb eb rb => ⟨_, tgt_name, rfl, ?_, fun _ => ?_⟩)
      · refine s_asgR (ef_catR (ep_lst (ev_var rfl) (e2 _ _ hf) (r.ex e2)) (ep_LR hcomp) (by rw [List.length_map]; have := List.length_filter_le (fun q => decide (q.name = p.name) || decide (q.name ∈ p.calls)) C; omega)) fun F' us' H3 hF' e3 h3 r3 => ⟨F', us', (e.trans e2).trans e3, fresh_back (e.trans e2) hF', ⟨_, _, _, _, _, _, rfl⟩, h3, r3⟩
      · rw [prc_da] at rb
        have a2 := ev_inStrs (K := K) (neg := false) (x := q.name) (xs := p.calls) (ta := tOp (rIxT K) (tVar 8) (tC (V.int 0))) (tb := tVar 3) (σ := (wipe [some (V.ref a), some (.ref F), some vp, some (.ref Ca), x4, x5, x6, x7, none, none, none, none] [8]).set 8 (some v')) (H := Hb) (ev_ixRs (i := 0) (ev_var rfl) rb rfl) (ep_lst (ev_var rfl) (eb _ _ h2) strs_reps)
        rw [if_neg (by decide)] at a2
        exact et_or (et_strs (ev_ixRs (i := 0) (ev_var rfl) rb rfl) (ev_ixRs (i := 0) (ev_var rfl) (hvp.ex (e2.trans eb)) rfl)) fun _ => et_test a2
      · rw [prc_da] at rb
        exact er_tup (er_cons (ev_ixR (i := 0) (ev_var rfl) (hvp.ex (e2.trans eb)) rfl) (er_cons (ev_ixR (i := 0) (ev_var rfl) rb rfl) er_nil)) (by simp [pd])
    · rintro σ' H' ⟨F, us1, e, hF, ⟨x2, x3, x4, x5, x6, x7, rfl⟩, hf, r⟩
      rw [List.nil_append] at r
      have er : (C.flatMap fun p => ((C.filter fun q => decide (q.name = p.name) || decide (q.name ∈ p.calls)).map fun q => pdd (p.name, q.name))) = (prs0 C).map pdd := by
        unfold prs0
        rw [List.map_flatMap]
        congr 1
        funext p
        rw [List.map_map]
        rfl
      rw [er] at r
      have hcl : (C.length : Int) ≤ 100000 := by omega
      refine q_forR1 (n := (C.length : Int)) (ea_cons (ev_is (ev_lenT (ev_var rfl) (e _ _ ha)) (by rw [hul])) ea_nil) ⟨by omega, by omega⟩ (fun i σ' H' => ∃ F us ps x2 x3 x4 x5 x6 x7, σ' = [some (.ref a), some (.ref F), x2, x3, x4, x5, x6, x7, none, none, none, none] ∧ Ex H H' ∧ H F = none ∧ H' F = some (.lst us) ∧ Reps K H' us (ps.map pdd) ∧ SndP C ps ∧ AllP C (2 ^ i) ps ∧ ps.length ≤ 36)
        (fun H2 e2 => ⟨F, us1, prs0 C, _, _, _, _, _, _, rfl, e.trans e2, hF, e2 _ _ hf, r.ex e2, prs0_snd hC, prs0_all hC, prs0_len hC⟩) ?_ ?_
      · rintro i σ2 H2 hi ⟨F, us, ps, x2, x3, x4, x5, x6, x7, rfl, e2, hF2, hf2, r2, sn, al, hl⟩
        show tSeq _ _ _ [some (V.ref a), some (.ref F), x2, x3, some (.int (i : Int)), x5, x6, x7, none, none, none, none] H2
        refine q_asgR (ef_nil K) fun Mo um H3 hMo e3 h3 r3 => ?_
        refine q_seq (s_accLE (K := K) (b := ps) (g := pdd) (f := fun x => (ps.filter fun y => decide (y.1 = x.2)).map fun y => pdd (x.1, y.2)) (l0 := []) (H0 := H2) (SI := fun Mo σ => ∃ x6 x7, σ = [some (.ref a), some (.ref F), x2, x3, some (.int (i : Int)), some (.ref Mo), x6, x7, none, none, none, none]) (ev_var rfl) hf2 r2 ⟨Mo, um, e3, hMo, ⟨_, _, rfl⟩, h3, r3⟩ ?_ ?_)
        · rintro j x v σ' H' hx rx ⟨Mo, um, e4, hMo, ⟨x6, x7, rfl⟩, h4, r4⟩
          have hz : (([] : List Da) ++ (ps.take j).flatMap fun x => (ps.filter fun y => decide (y.1 = x.2)).map fun y => pdd (x.1, y.2)).length ≤ 1296 := by
            rw [List.nil_append]
            refine Nat.le_trans (flatMap_len _ 36 _ fun p hp => ?_) (Nat.mul_le_mul_right 36 (Nat.le_trans (List.length_take_le' ..) hl))
            rw [List.length_map]
            exact Nat.le_trans (List.length_filter_le _ _) hl
          generalize (([] : List Da) ++ (ps.take j).flatMap fun x => (ps.filter fun y => decide (y.1 = x.2)).map fun y => pdd (x.1, y.2)) = l0 at hz r4 ⊢
          have rx2 : Rep K H' v (.t [.s x.1, .s x.2]) := rx
          obtain ⟨t, v1, v2, rfl, ht, k1, k2⟩ := rep_two rx2
          rw [rep_str k1, rep_str k2] at ht
          refine tgt_pair ht _ ?_
          have hcomp := ef_lcL (K := K) (σ := [some (V.ref a), some (.ref F), x2, x3, some (.int (i : Int)), some (.ref Mo), some (.str x.1), some (.str x.2), none, none, none, none]) (H := H') (b := ps) (g0 := pdd) (f := fun y => decide (y.1 = x.2)) (e := fun y => pdd (x.1, y.2)) (vs := [10, 11]) (tg := gTup K 2 (gCons (gName 10) (gCons (gName 11) gNil))) (tt := tTest (tOp rEq (tVar 10) (tVar 7))) (te := tTup (tCons (tVar 6) (tCons (tVar 11) tNil))) (tl := tVar 1) (ev_var rfl) (e4 _ _ hf2) (r2.ex e4) (by omega) (fun i y v' Hb hb eb rb => by
            have rb2 : Rep K Hb v' (.t [.s y.1, .s y.2]) := rb
            obtain ⟨t, w1, w2, rfl, ht, k1, k2⟩ := rep_two rb2
            rw [rep_str k1, rep_str k2] at ht
            exact ⟨_, tgt_pair ht, rfl, et_strs (ev_var rfl) (ev_var rfl), fun _ => er_tup (er_cons (ep_Rs (ev_var rfl)) (er_cons (ep_Rs (ev_var rfl)) er_nil)) (by simp [pd])⟩)
          refine s_asgR (ef_catR (ep_lst (ev_var rfl) h4 r4) (ep_LR hcomp) (by rw [List.length_map]; have := List.length_filter_le (fun y => decide (y.1 = x.2)) ps; omega)) fun F' us' H5 hF' e5 h5 r5 => ⟨F', us', e4.trans e5, fresh_back e4 hF', ⟨_, _, rfl⟩, h5, r5⟩
        · rintro σ' H' ⟨Mo, um, e4, hMo, ⟨x6, x7, rfl⟩, h4, r4⟩
          rw [List.nil_append] at r4
          have er2 : (ps.flatMap fun x => (ps.filter fun y => decide (y.1 = x.2)).map fun y => pdd (x.1, y.2)) = (sqr ps).map pdd := by
            unfold sqr
            rw [List.map_flatMap]
            congr 1
            funext p
            rw [List.map_map]
            rfl
          rw [er2] at r4
          have hsl : (sqr ps).length ≤ 1296 := by
            have := flatMap_len (fun x => (ps.filter fun y => decide (y.1 = x.2)).map fun y => (x.1, y.2)) 36 ps fun x _ => by
              rw [List.length_map]
              exact Nat.le_trans (List.length_filter_le _ _) hl
            unfold sqr
            omega
          have hsn : SndP C (ddp (sqr ps)) := sq_snd sn fun q hq => mem_sqr.mp ((ddp_mem _ _).mp hq)
          have hal : AllP C (2 ^ (i + 1)) (ddp (sqr ps)) := by
            have := sq_all hC (qs := ddp (sqr ps)) al fun u v m h1 h2 => (ddp_mem _ _).mpr (mem_sqr.mpr ⟨m, h1, h2⟩)
            rw [Nat.pow_succ, Nat.mul_two]
            exact this
          have hdl := snd_len hC hsn (ddp_nd _)
          have hul2 : um.length = (sqr ps).length := by rw [r4.len, List.length_map]
          have hcomp := ef_lcR (K := K) (σ := [some (V.ref a), some (.ref F), x2, x3, some (.int (i : Int)), some (.ref Mo), x6, x7, none, none, none, none]) (H := H') (b := (sqr ps).zipIdx) (n := (um.length : Int)) (j := 9) (ws := [9]) (f := fun q => decide (q.1 ∉ (sqr ps).take q.2)) (e := fun q => pdd q.1) (tt := tTest (tOp (rIn8 true) (tOp (rIxL K) (tVar 5) (tVar 9)) (tSl (rSlL K) (tVar 5) tNoPart (tPart (tVar 9))))) (te := tOp (rIxL K) (tVar 5) (tVar 9)) (by rw [hul2, List.length_zipIdx]) (by rw [List.length_zipIdx]; omega) (ea_cons (ev_lenL (K := K) (ev_var (i := 5) rfl) h4) ea_nil) (fun j x Hb hx eb => by
            rw [List.getElem?_zipIdx, Option.map_eq_some_iff] at hx
            obtain ⟨y, hy, rfl⟩ := hx
            rw [Nat.zero_add]
            have hjl : j < (sqr ps).length := (List.getElem?_eq_some_iff.mp hy).1
            have hit : EvP (tOp (rIxL K) (tVar 5) (tVar 9)) ((wipe [some (V.ref a), some (.ref F), x2, x3, some (.int (i : Int)), some (.ref Mo), x6, x7, none, none, none, none] [9]).set 9 (some (.int (j : Int)))) Hb (fun v H => Rep K H v (td (pd y))) := by
              obtain ⟨w, hw, rw'⟩ := (r4.ex eb).at_ (by rw [List.getElem?_map, hy]; rfl : ((sqr ps).map pdd)[j]? = some (pdd y))
              exact ep_R (ev_ixL (i := j) (ev_var rfl) (ev_var rfl) (eb _ _ h4) hw) rw'
            have hsl2 := ep_takeL (K := K) (te := tVar 5) (tb := tVar 9) (k := j) (σ := (wipe [some (V.ref a), some (.ref F), x2, x3, some (.int (i : Int)), some (.ref Mo), x6, x7, none, none, none, none] [9]).set 9 (some (.int (j : Int)))) (ev_var rfl) (ev_var rfl) (eb _ _ h4) (r4.ex eb) (by rw [List.length_map]; omega)
            rw [← List.map_take, pdd_map] at hsl2
            have h8 := ev_in8 (neg := true) hit hsl2
            rw [if_pos rfl] at h8
            refine ⟨rfl, et_is (et_test h8) ?_, fun _ => hit⟩
            rw [← decide_not]
            exact decide_eq_decide.mpr (not_congr pd_mem))
          have hcomp2 := ep_LR hcomp
          rw [show (((sqr ps).zipIdx.filter fun q => decide (q.1 ∉ (sqr ps).take q.2)).map fun q => pdd q.1) = (ddp (sqr ps)).map pdd by unfold ddp; rw [List.map_map]; rfl] at hcomp2
          refine ef_sortP hcomp2 (by omega) H' (Ex.refl _) _ fun p us5 H5 qs hp5 e5 h5 r5 hperm => ?_
          refine ⟨p, us5, qs, _, _, _, _, _, _, rfl, (e2.trans e4).trans e5, fresh_back (e2.trans e4) hp5, h5, r5, fun z hz => hsn z (hperm.mem_iff.mp hz), fun u v hu hw => hperm.mem_iff.mpr (hal u v hu hw), by rw [hperm.length_eq]; exact hdl⟩
      · rintro σ2 H2 ⟨F, us, ps, x2, x3, x4, x5, x6, x7, rfl, e2, hF2, hf2, r2, sn, al, hl⟩
        rw [Int.toNat_natCast] at al
        exact s_ret (ev_var rfl) fun H3 e3 => q F us H3 ps hF2 (e2.trans e3) (e3 _ _ hf2) (r2.ex e3) (fun u v => all_rc hC sn al u v) hl
end
end K88

set_option maxHeartbeats 4000000
namespace K88
open PySem L2 Evl
def spLG (K : PySem.W.Frag) : Sp := fun vs H Q _ => ∃ (v pv : V) (C : List Prc) (ps : PS2), vs = [v, pv] ∧ Rep K H v (coreDa C) ∧ OkC C ∧ IsLR K (ps.map pdd) pv H ∧ (∀ u v, (u, v) ∈ ps ↔ Rc C u v) ∧ ps.length ≤ 36 ∧ RetLR K ((torder C).map td) H Q
theorem find_at {α : Type} {f : α → Bool} : ∀ {l : List α} {j : Nat} {g : α}, l[j]? = some g → f g = true → (∀ k g', k < j → l[k]? = some g' → f g' = false) → l.find? f = some g
  | x :: l, 0, g, h, hf, _ => by
    have : x = g := by simpa using h
    subst this
    rw [List.find?_cons, hf]
  | x :: l, j + 1, g, h, hf, hn => by
    have h0 := hn 0 x (Nat.succ_pos _) rfl
    rw [List.find?_cons, h0]
    exact find_at (by simpa using h) hf fun k g' hk hg => hn (k + 1) g' (by omega) (by simpa using hg)
theorem find_filter8 {α : Type} {p f : α → Bool} : ∀ l : List α, (l.filter p).find? f = l.find? fun a => p a && f a
  | [] => rfl
  | x :: l => by
    rw [List.filter_cons, List.find?_cons]
    cases hp : p x with
    | true =>
      rw [if_pos rfl, List.find?_cons, Bool.true_and]
      cases f x with
      | true => rfl
      | false => exact find_filter8 l
    | false =>
      rw [if_neg (by decide), Bool.false_and]
      exact find_filter8 l
theorem wait_erase {G found : List (List Str)} {g : List Str} (nd : G.Nodup) : (G.filter fun x => decide (x ∉ found)).erase g = G.filter fun x => decide (x ∉ found ++ [g]) := by
  rw [List.Nodup.erase_eq_filter (nd.filter _), List.filter_filter]
  refine List.filter_congr fun x _ => ?_
  rw [Bool.eq_iff_iff]
  simp [and_comm]
theorem grp_filter {C : List Prc} {ps : PS2} (h : ∀ u v, (u, v) ∈ ps ↔ Rc C u v) (n : Str) : (C.filter fun q => decide ((n, q.name) ∈ ps) && decide ((q.name, n) ∈ ps)).map (fun q => Da.s q.name) = (grp C n).map Da.s := by
  unfold grp nms
  rw [List.filter_map, List.map_map]
  congr 1
  refine List.filter_congr fun q _ => ?_
  rw [Bool.eq_iff_iff]
  simp [h, rcB_iff]
theorem leftN_len {C : List Prc} (hC : OkC C) (i : Nat) : (leftN C i).length ≤ 6 := by
  unfold leftN
  rw [List.length_map]
  have h1 := List.length_filter_le (isHd C) (C.take i)
  have h2 := List.length_take_le' i C
  have := hC.n6
  omega
theorem leftN_all (C : List Prc) : leftN C C.length = gls C := by
  unfold leftN gls
  rw [List.take_length]
def nedL (ps : PS2) (g : List Str) : List Str := (ps.filter fun y => decide (y.1 = g.headD "") && decide (y.2 ∉ g)).map (·.2)
theorem ned_rdy {C : List Prc} (hC : OkC C) {ps : PS2} (h : ∀ u v, (u, v) ∈ ps ↔ Rc C u v) {placed g : List Str} : (((nedL ps g).map fun x => decide (x ∈ placed)).all id) = rdy C placed g := by
  rw [Bool.eq_iff_iff, rdy_iff hC, List.all_map, List.all_eq_true]
  unfold nedL
  constructor
  · intro hh x hx
    by_cases hg : x ∈ g
    · exact .inr hg
    · have := hh x (List.mem_map.mpr ⟨(g.headD "", x), List.mem_filter.mpr ⟨(h _ _).mpr hx, by simp [hg]⟩, rfl⟩)
      exact .inl (by simpa using this)
  · intro hh x hx
    obtain ⟨⟨f, l⟩, hm, rfl⟩ := List.mem_map.mp hx
    obtain ⟨h1, h2⟩ := List.mem_filter.mp hm
    rw [Bool.and_eq_true, decide_eq_true_eq, decide_eq_true_eq] at h2
    obtain ⟨h2, h3⟩ := h2
    dsimp only at h2 h3
    subst h2
    rcases hh l ((h _ _).mp h1) with h4 | h4
    · simpa using h4
    · exact absurd h4 h3
section
variable {P : Program} {w : World} {K : PySem.W.Frag} {mg : Str → Option Value} {base : Heap} {σ : L2.St} {H : Hp} {De : Ends} {tz : TS} {ta te tm tk : TE}
theorem sc_law_groups : FnScope ["core", "pairs", "left", "p", "group", "found", "done", "turn", "needed", "q", "first", "last", "name"] ["core", "pairs"] (defScope (topS 37)) := ⟨rfl, rfl, rfl, by decide +kernel, rfl, by decide +kernel, by decide +kernel⟩
theorem ok_law_groups {f : Addr} {fd : FuncData} (F : FnP K "_law_groups" "_law_groups" (topS 37) f fd) (T : Bt mg) : FnOk P w K mg base CX0 1 f fd ["core", "pairs"] (spLG K) := by
  refine F.ok sc_law_groups (fun vs H Q E h => ?_) (fun cdv A outer s H vs Q E hr h => ?_)
  · obtain ⟨v, pw8, C, ps, rfl, _⟩ := h
    rfl
  · obtain ⟨v, pw8, C, ps, rfl, hv, hC, hpv, hps, hpl, q⟩ := h
    refine ⟨_, PSs.nox
      (pss_cons (ps_set (i := 2) sc_law_groups.nd rfl (Or.inl rfl) (pe_lst pa_nil))
      (pss_cons (ps_for PassesOwn.never rfl (pi_tupK K rfl (pv 0)) (pg_name (i := 3) sc_law_groups.nd rfl (Or.inr rfl)) (pss_cons (ps_set (i := 4) sc_law_groups.nd rfl (Or.inr rfl) (pe_callTy (call_tuple_ofK K rfl) (by rfl) T.m_tuple (by decide +kernel) (pa_cons (pe_lc (own := [("q", 9)])  rfl sc_law_groups.nd  (pi_tupK K rfl (pv 0)) (blkOk_by (own := [("q", 9)]) (N := ["core", "pairs", "left", "p", "group", "found", "done", "turn", "needed", "q", "first", "last", "name"]) (sc := defScope (topS 37)) (by decide +kernel)) (fun _ _ _ _ _ => (pg_name (i := 9) sc_law_groups.nd rfl (Or.inl rfl))) (fun _ _ _ _ _ => (pts_one (PW.pt (pw_and (pt_cmpR (op_in8 hr.units) (pe_tup (pa_cons (pe_ix (ix_tupK K rfl) (pv 3) pe_int (fun _ _ => rfl)) (pa_cons (pe_ix (ix_tupK K rfl) (pv 9) pe_int (fun _ _ => rfl)) pa_nil))) (pv 1) rfl) (pw_and1 (pt_cmpR (op_in8 hr.units) (pe_tup (pa_cons (pe_ix (ix_tupK K rfl) (pv 9) pe_int (fun _ _ => rfl)) (pa_cons (pe_ix (ix_tupK K rfl) (pv 3) pe_int (fun _ _ => rfl)) pa_nil))) (pv 1) rfl)))))) (fun _ _ _ _ _ => (pe_ix (ix_tupK K rfl) (pv 9) pe_int (fun _ _ => rfl)))) pa_nil)))
      (pss_one (ps_if (pt_cmpR (op_notIn8 hr.units) (pv 4) (pv 2) rfl) (pss_one (ps_expr (pe_bm PySem.F.plainAttrs_list PySem.F.slot_list_append PySem.F.type_list_append mt_append (pv 2) (pa_cons (pv 4) pa_nil)))) pss_nil))))
      (pss_cons (ps_set (i := 5) sc_law_groups.nd rfl (Or.inl rfl) (pe_lst pa_nil))
      (pss_cons (ps_set (i := 6) sc_law_groups.nd rfl (Or.inr rfl) (pe_lst pa_nil))
      (pss_cons (ps_for PassesOwn.never rfl (pi_range1 (by rfl) T.m_range (pa_cons (pe_callB (call_lenK K rfl) (by rfl) T.m_len (by decide +kernel) (pa_cons (pv 2) pa_nil)) pa_nil)) (pg_name (i := 7) sc_law_groups.nd rfl (Or.inl rfl)) (pss_one (ps_for PassesOwn.never rfl (pi_listK K rfl (pv 2)) (pg_name (i := 4) sc_law_groups.nd rfl (Or.inr rfl)) (pss_cons (ps_setLc (i := 8) (own := [("first", 10), ("last", 11)])  rfl sc_law_groups.nd rfl rfl (sw_true rfl rfl rfl (by decide +kernel)) (pi_listK K rfl (pv 1)) (blkOk_by (own := [("first", 10), ("last", 11)]) (N := ["core", "pairs", "left", "p", "group", "found", "done", "turn", "needed", "q", "first", "last", "name"]) (sc := defScope (topS 37)) (by decide +kernel)) (fun _ _ _ _ _ => (pg_tupK K rfl (n := 2) rfl (pgs_cons (pg_name (i := 10) sc_law_groups.nd rfl (Or.inl rfl)) (pgs_cons (pg_name (i := 11) sc_law_groups.nd rfl (Or.inl rfl)) pgs_nil)))) (fun _ _ _ _ _ => (pts_one (PW.pt (pw_and (pt_cmpR op_eq (pv 10) (pe_ix (ix_tupK K rfl) (pv 4) pe_int (fun _ _ => rfl)) (nomark _)) (pw_and1 (pt_cmpR (op_notIn_seqK K rfl) (pv 11) (pv 4) rfl)))))) (fun _ _ _ _ _ => (pv 11)))
      (pss_one (ps_if (PW.pt (pw_and (pt_cmpR (op_notIn8 hr.units) (pv 4) (pv 5) rfl) (pw_and1 (pt_val (pe_callB (cr_allK K rfl rfl) (by rfl) T.m_all (by decide +kernel) (pa_cons (pe_lc (own := [("name", 12)])  rfl sc_law_groups.nd  (pi_listK K rfl (pv 8)) (blkOk_by (own := [("name", 12)]) (N := ["core", "pairs", "left", "p", "group", "found", "done", "turn", "needed", "q", "first", "last", "name"]) (sc := defScope (topS 37)) (by decide +kernel)) (fun _ _ _ _ _ => (pg_name (i := 12) sc_law_groups.nd rfl (Or.inl rfl))) (fun _ _ _ _ _ => pts_nil) (fun _ _ _ _ _ => (pe_cmpR (op_in_seqK K rfl) (pv 12) (pv 6) rfl))) pa_nil)))))) (pss_cons (ps_expr (pe_bm PySem.F.plainAttrs_list PySem.F.slot_list_append PySem.F.type_list_append mt_append (pv 5) (pa_cons (pv 4) pa_nil)))
      (pss_cons (ps_set (i := 6) sc_law_groups.nd rfl (Or.inr rfl) (pe_op op_cat (pv 6) (pe_callTy (call_list_ofK K rfl) (by rfl) T.m_list (by decide +kernel) (pa_cons (pv 4) pa_nil))))
      (pss_one ps_break))) pss_nil))))))
      (pss_one (ps_ret (pv 5)))))))), ?_⟩
    have hv0 := hv
    unfold coreDa Rep at hv
    obtain ⟨a, us, rfl, ha, hr2⟩ := hv
    have h6 := hC.n6
    have hul : us.length = C.length := by rw [hr2.len, List.length_map]
    obtain ⟨pa, pus, rfl, hpa, rpa⟩ := hpv
    have rpa2 := rpa
    rw [pdd_map] at rpa2
    refine q_asgR (ef_nil K) fun L us0 H1 hL e1 h1 r1 => ?_
    refine q_seq (s_forT (xs := us) (g := gName 3) (ev_var rfl) (st_of (e1 _ _ ha)) (fun i σ' H' => ∃ ul x3 x4, σ' = [some (.ref a), some (.ref pa), some (.ref L), x3, x4, none, none, none, none, none, none, none, none] ∧ Ex H H' ∧ H' L = some (.lst ul) ∧ Reps K H' ul ((leftN C i).map td)) (fun H2 e2 => ⟨us0, _, _, rfl, e1.trans e2, e2 _ _ h1, r1.ex e2⟩) (fun i σ' H' _ p => ?_) (fun i vp σ' H' hvp p => ?_) (fun σ' H' p => ?_))
    · obtain ⟨_, _, _, _, e, _⟩ := p
      exact st_of (e _ _ ha)
    · obtain ⟨ul, x3, x4, rfl, e, hl, rl⟩ := p
      obtain ⟨d, hd, rd⟩ := hr2.get hvp
      rw [List.getElem?_map, Option.map_eq_some_iff] at hd
      obtain ⟨p, hp, rfl⟩ := hd
      have hpC := List.mem_of_getElem? hp
      rw [prc_da] at rd
      show tSeq _ _ _ [some (.ref a), some (.ref pa), some (.ref L), some vp, x4, none, none, none, none, none, none, none, none] H'
      have hcomp := ef_lcT (K := K) (σ := [some (.ref a), some (.ref pa), some (.ref L), some vp, x4, none, none, none, none, none, none, none, none]) (H := H') (b := C) (g0 := Prc.da) (f := fun q => decide ((p.name, q.name) ∈ ps) && decide ((q.name, p.name) ∈ ps)) (e := fun q => Da.s q.name) (vs := [9]) (tg := gName 9) (tl := tVar 0)
        (tt := tAnd (tTest (tOp (rIn8 false) (tTup (tCons (tOp (rIxT K) (tVar 3) (tC (V.int 0))) (tCons (tOp (rIxT K) (tVar 9) (tC (V.int 0))) tNil))) (tVar 1))) (tTest (tOp (rIn8 false) (tTup (tCons (tOp (rIxT K) (tVar 9) (tC (V.int 0))) (tCons (tOp (rIxT K) (tVar 3) (tC (V.int 0))) tNil))) (tVar 1)))) (te := tOp (rIxT K) (tVar 9) (tC (V.int 0))) (ev_var rfl) (e _ _ ha) (hr2.ex e) (by omega) (fun i q v' Hb hb eb rb => by
          rw [prc_da] at rb
          have hin : ∀ {ta tb : TE} {x y : Str} {H8 : Hp}, Ex Hb H8 → Ev ta ((wipe [some (.ref a), some (.ref pa), some (.ref L), some vp, x4, none, none, none, none, none, none, none, none] [9]).set 9 (some v')) H8 (.str x) → Ev tb ((wipe [some (.ref a), some (.ref pa), some (.ref L), some vp, x4, none, none, none, none, none, none, none, none] [9]).set 9 (some v')) H8 (.str y) → EvT (tTest (tOp (rIn8 false) (tTup (tCons ta (tCons tb tNil))) (tVar 1))) ((wipe [some (.ref a), some (.ref pa), some (.ref L), some vp, x4, none, none, none, none, none, none, none, none] [9]).set 9 (some v')) H8 (decide ((x, y) ∈ ps)) := fun {ta tb x y H8} e8 h1 h2 => by
            have e08 := (e.trans eb).trans e8
            have h8 := ev_in8 (K := K) (neg := false) (k := pd (x, y)) (ks := ps.map pd) (tb := tVar 1) (σ := (wipe [some (.ref a), some (.ref pa), some (.ref L), some vp, x4, none, none, none, none, none, none, none, none] [9]).set 9 (some v')) (H := H8) (er_tup (er_cons (ep_Rs h1) (er_cons (ep_Rs h2) er_nil)) (by simp [pd])) (ep_lst (ev_var rfl) (e08 _ _ hpa) (rpa2.ex e08))
            rw [if_neg (by decide)] at h8
            exact et_is (et_test h8) (decide_eq_decide.mpr pd_mem)
          exact ⟨_, tgt_name, rfl, et_and (hin (Ex.refl _) (ev_ixRs (i := 0) (ev_var rfl) (rd.ex (e.trans eb)) rfl) (ev_ixRs (i := 0) (ev_var rfl) rb rfl)) fun _ => hin (Ex.refl _) (ev_ixRs (i := 0) (ev_var rfl) rb rfl) (ev_ixRs (i := 0) (ev_var rfl) (rd.ex (e.trans eb)) rfl), fun _ => ev_ixR (i := 0) (ev_var rfl) rb rfl⟩)
      rw [grp_filter hps] at hcomp
      refine q_asgP (er_tupL (ep_LR hcomp)) fun gv H2 e2 rg => ?_
      have rg' : Rep K H2 gv (td (grp C p.name)) := rg
      have hst := left_step hC hp
      have hll := leftN_len hC i
      have h8 : ∀ {H3 : Hp}, Ex H2 H3 → Ev (tOp (rIn8 true) (tVar 4) (tVar 2)) [some (.ref a), some (.ref pa), some (.ref L), some vp, some gv, none, none, none, none, none, none, none, none] H3 (.bl (!decide (grp C p.name ∈ leftN C i))) := fun {H3} e3 => by
        have := ev_in8 (K := K) (neg := true) (k := grp C p.name) (ks := leftN C i) (ta := tVar 4) (tb := tVar 2) (σ := [some (.ref a), some (.ref pa), some (.ref L), some vp, some gv, none, none, none, none, none, none, none, none]) (H := H3) (ep_R (ev_var rfl) (rg'.ex e3)) (ep_lst (ev_var rfl) ((e2.trans e3) _ _ hl) (rl.ex (e2.trans e3)))
        rw [if_pos rfl] at this
        exact this
      refine s_when (et_test (h8 (Ex.refl _))) (fun hB H3 e3 => ?_) (fun hB H3 e3 => ?_)
      · have hB' : grp C p.name ∉ leftN C i := by simpa using hB
        refine s_appR ((e2.trans e3) _ _ hl) (rl.ex (e2.trans e3)) (by rw [List.length_map]; omega) (ev_var rfl) (ep_R (ev_var rfl) (rg'.ex e3)) fun H4 us4 x4' h4 r4 => ⟨us4, _, _, rfl, exs_base hL (e.trans (e2.trans e3)) x4', h4, ?_⟩
        rw [hst, if_neg hB', List.map_append]
        exact r4
      · have hB' : grp C p.name ∈ leftN C i := by simpa using hB
        refine ⟨ul, _, _, rfl, e.trans (e2.trans e3), (e2.trans e3) _ _ hl, ?_⟩
        rw [hst, if_pos hB']
        exact rl.ex (e2.trans e3)
    · obtain ⟨ul, x3, x4, rfl, e, hl, rl⟩ := p
      rw [hul, leftN_all] at rl
      have hull : ul.length = (gls C).length := by rw [rl.len, List.length_map]
      have hg6 := gls_len hC
      refine q_asgR (ef_nil K) fun Fo uf0 H3 hFo e3 h3 r3 => ?_
      refine q_asgR (ef_nil K) fun Dn ud0 H4 hDn e4 h4 r4 => ?_
      have hDF : Dn ≠ Fo := fun z => by rw [z, h3] at hDn; cases hDn
      have hLF : L ≠ Fo := fun z => by rw [z] at hl; rw [hl] at hFo; cases hFo
      have w0 : (gls C).filter (fun x => decide (x ∉ ([] : List (List Str)))) = gls C := by
        rw [List.filter_eq_self.mpr fun _ _ => by simp]
      refine q_forR1 (n := ((gls C).length : Int)) (ea_cons (ev_is (ev_lenL (K := K) (σ := [some (.ref a), some (.ref pa), some (.ref L), x3, x4, some (.ref Fo), some (.ref Dn), none, none, none, none, none, none]) (H := H4) (ev_var (i := 2) rfl) ((e3.trans e4) _ _ hl)) (by rw [hull])) ea_nil) ⟨by omega, by omega⟩ (fun i σ' H5 => ∃ uf found placed Dn x3 x4 x7 x8, σ' = [some (.ref a), some (.ref pa), some (.ref L), x3, x4, some (.ref Fo), some (.ref Dn), x7, x8, none, none, none, none] ∧ Ex H' H5 ∧ H5 Fo = some (.lst uf) ∧ Reps K H5 uf (found.map td) ∧ H5 Dn = some (.lst (placed.map V.str)) ∧ Dn ≠ Fo ∧
          WInv C ((gls C).filter fun x => decide (x ∉ found)) placed ∧ found ++ topo C ((gls C).filter fun x => decide (x ∉ found)).length ((gls C).filter fun x => decide (x ∉ found)) placed = torder C ∧ ((gls C).filter fun x => decide (x ∉ found)).length + i = (gls C).length ∧ found.length = i ∧ placed.length ≤ i * 6)
        (fun H5 e5 => ⟨uf0, [], [], Dn, _, _, _, _, rfl, (e3.trans e4).trans e5, (e4.trans e5) _ _ h3, r3.ex (e4.trans e5), by have := reps_strs (xs := []) r4; rw [this] at h4; exact e5 _ _ h4, hDF, by rw [w0]; exact winv_start hC, by rw [w0]; rfl, by rw [w0]; rfl, rfl, Nat.zero_le _⟩) ?_ ?_
      · rintro i σ2 H5 hi ⟨uf, found, placed, Dn, x3, x4, x7, x8, rfl, e5, hf5, rf5, hd5, hDF, wi, htop, hwl, hfl, hpl2⟩
        generalize hW : ((gls C).filter fun x => decide (x ∉ found)) = W at wi htop hwl
        have hne : W ≠ [] := fun z => by rw [z] at hwl; simp at hwl; omega
        obtain ⟨g, hg⟩ := ready_ex hC wi hne
        have hgm := List.mem_of_find?_eq_some hg
        have hfind : (gls C).find? (fun x => decide (x ∉ found) && rdy C placed x) = some g := by rw [← find_filter8, hW]; exact hg
        show tFor _ _ _ _ [some (V.ref a), some (.ref pa), some (.ref L), x3, x4, some (.ref Fo), some (.ref Dn), some (.int (i : Int)), x8, none, none, none, none] H5
        refine s_forL (xs := ul) (g := gName 4) (ev_var rfl) (sq_of (e5 _ _ hl)) (fun j σ' H6 => ∃ x4 x8, σ' = [some (.ref a), some (.ref pa), some (.ref L), x3, x4, some (.ref Fo), some (.ref Dn), some (.int (i : Int)), x8, none, none, none, none] ∧ Ex H5 H6 ∧ ∀ k g', k < j → (gls C)[k]? = some g' → (decide (g' ∉ found) && rdy C placed g') = false) (fun H6 e6 => ⟨_, _, rfl, e6, fun k g' hk => absurd hk (Nat.not_lt_zero _)⟩) (fun j σ' H6 _ p => ?_) (fun j gv σ' H6 hgv p => ?_) (fun σ' H6 p => ?_)
        · obtain ⟨_, _, _, e6, _⟩ := p
          exact sq_of ((e5.trans e6) _ _ hl)
        · obtain ⟨x4, x8, rfl, e6, hno⟩ := p
          obtain ⟨d, hd, rd⟩ := rl.get hgv
          rw [List.getElem?_map, Option.map_eq_some_iff] at hd
          obtain ⟨g', hg', rfl⟩ := hd
          have e56 := e5.trans e6
          have e056 := e.trans e56
          obtain ⟨hd0, rst, eg, _, _⟩ := grp_hd hC (List.mem_of_getElem? hg')
          have rd6 := rd.ex e56
          have rd6' : Rep K H6 gv (.t (g'.map Da.s)) := rd6
          have hix : ∀ {σ9 : L2.St} {H9 : Hp}, Ex H6 H9 → σ9[4]? = some (some gv) → Ev (tOp (rIxT K) (tVar 4) (tC (V.int 0))) σ9 H9 (.str (g'.headD "")) := fun e9 h9 => by
            have := rd6'.ex e9
            rw [eg] at this ⊢
            exact ev_ixRs (i := 0) (ev_var h9) this rfl
          have hgl := gl_len hC (List.mem_of_getElem? hg')
          show tSeq _ _ _ [some (V.ref a), some (.ref pa), some (.ref L), x3, some gv, some (.ref Fo), some (.ref Dn), some (.int (i : Int)), x8, none, none, none, none] H6
          have hcomp := ef_lcL (K := K) (σ := [some (V.ref a), some (.ref pa), some (.ref L), x3, some gv, some (.ref Fo), some (.ref Dn), some (.int (i : Int)), x8, none, none, none, none]) (H := H6) (b := ps) (g0 := pdd) (f := fun y => decide (y.1 = g'.headD "") && decide (y.2 ∉ g')) (e := fun y => Da.s y.2) (vs := [10, 11]) (tg := gTup K 2 (gCons (gName 10) (gCons (gName 11) gNil))) (tl := tVar 1)
            (tt := tAnd (tTest (tOp rEq (tVar 10) (tOp (rIxT K) (tVar 4) (tC (V.int 0))))) (tTest (tOp (rIn K true) (tVar 11) (tVar 4)))) (te := tVar 11) (ev_var rfl) (e056 _ _ hpa) (rpa.ex e056) (by omega) (fun i9 y v' Hb hb eb rb => by
              have rb2 : Rep K Hb v' (.t [.s y.1, .s y.2]) := rb
              obtain ⟨t, w1, w2, rfl, ht, k1, k2⟩ := rep_two rb2
              rw [rep_str k1, rep_str k2] at ht
              refine ⟨_, tgt_pair ht, rfl, et_and (et_strs (ev_var rfl) (hix eb rfl)) fun _ => ?_, fun _ => ep_Rs (ev_var rfl)⟩
              have h9 := ev_inStrsT (K := K) (neg := true) (x := y.2) (xs := g') (ta := tVar 11) (tb := tVar 4) (σ := ((wipe [some (V.ref a), some (.ref pa), some (.ref L), x3, some gv, some (.ref Fo), some (.ref Dn), some (.int (i : Int)), x8, none, none, none, none] [10, 11]).set 10 (some (.str y.1))).set 11 (some (.str y.2))) (H := Hb) (ev_var rfl) (ep_R (ev_var rfl) (rd6'.ex eb))
              rw [if_pos rfl, ← decide_not] at h9
              exact et_test h9)
          rw [show ((ps.filter fun y => decide (y.1 = g'.headD "") && decide (y.2 ∉ g')).map fun y => Da.s y.2) = (nedL ps g').map Da.s by unfold nedL; rw [List.map_map]; rfl] at hcomp
          refine q_asgR hcomp fun Nd un H7 hNd e7 h7 r7 => ?_
          have eun := reps_strs r7
          subst eun
          have hnl : (nedL ps g').length ≤ 36 := by
            unfold nedL
            rw [List.length_map]
            exact Nat.le_trans (List.length_filter_le _ _) hpl
          have e67 := e6.trans e7
          have h8 : ∀ {H9 : Hp}, Ex H7 H9 → Ev (tOp (rIn8 true) (tVar 4) (tVar 5)) [some (V.ref a), some (.ref pa), some (.ref L), x3, some gv, some (.ref Fo), some (.ref Dn), some (.int (i : Int)), some (.ref Nd), none, none, none, none] H9 (.bl (decide (g' ∉ found))) := fun {H9} e9 => by
            have := ev_in8 (K := K) (neg := true) (k := g') (ks := found) (ta := tVar 4) (tb := tVar 5) (σ := [some (V.ref a), some (.ref pa), some (.ref L), x3, some gv, some (.ref Fo), some (.ref Dn), some (.int (i : Int)), some (.ref Nd), none, none, none, none]) (H := H9) (ep_R (ev_var rfl) (rd6.ex (e7.trans e9))) (ep_lst (ev_var rfl) ((e67.trans e9) _ _ hf5) (rf5.ex (e67.trans e9)))
            rw [if_pos rfl, ← decide_not] at this
            exact this
          refine s_when (b := decide (g' ∉ found) && rdy C placed g') (et_and (et_test (h8 (Ex.refl _))) fun _ => et_is (et_B (ev_all (bs := (nedL ps g').map fun x => decide (x ∈ placed)) (ep_L (el_newL (xs := (nedL ps g').map V.str) _ (fun H9 e9 Q9 q9 => (ev_var (i := 8) rfl) H9 e9 _ fun H10 e10 => q9 _ H10 e10 ⟨Nd, rfl, (e9.trans e10) _ _ h7⟩) (by simp) (by rw [List.length_map]; omega) (fun _ => rfl) fun k u y hu hy => ?_)))) (ned_rdy hC hps)) (fun hB H8 e8 => ?_) (fun hB H8 e8 => ?_)
          · rw [List.getElem?_map, Option.map_eq_some_iff] at hu
            obtain ⟨z, hz, rfl⟩ := hu
            rw [List.getElem?_map, List.getElem?_map, hz] at hy
            cases hy
            have a1 := ev_inStrs (K := K) (neg := false) (x := z) (xs := placed) (ta := tVar 12) (tb := tVar 6) (σ := (wipe [some (V.ref a), some (.ref pa), some (.ref L), x3, some gv, some (.ref Fo), some (.ref Dn), some (.int (i : Int)), some (.ref Nd), none, none, none, none] [12]).set 12 (some (.str z))) (H := H7) (ev_var rfl) (ep_lst (ev_var rfl) (e67 _ _ hd5) strs_reps)
            rw [if_neg (by decide)] at a1
            exact a1
          · have hfg := find_at hg' hB hno
            rw [hfind] at hfg
            cases hfg
            have e68 := e67.trans e8
            have hWl : W.length = (W.erase g).length + 1 := by
              have := List.length_erase_of_mem hgm
              have := List.length_pos_of_mem hgm
              omega
            refine q_appR (e68 _ _ hf5) (rf5.ex e68) (by rw [List.length_map]; omega) (ev_var rfl) (ep_R (ev_var rfl) (rd6.ex (e7.trans e8))) fun H9 us9 x9 h9 r9 => ?_
            have d9 := x9 _ _ hDF (e68 _ _ hd5)
            have rg9 : Rep K H9 gv (.t (g.map Da.s)) := Rep.exs (e68 _ _ hf5) x9 (rd6'.ex (e7.trans e8))
            refine q_asgR (ef_catR (la := placed.map Da.s) (ep_lst (ev_var rfl) d9 strs_reps) (ep_LR (ef_lstT (ep_R (ev_var rfl) rg9))) (by rw [List.length_map, List.length_map]; omega)) fun Dn2 ud H10 hDn2 e10 h10 r10 => ?_
            rw [← List.map_append] at r10
            have eud := reps_strs r10
            subst eud
            have hDF2 : Dn2 ≠ Fo := fun z => by rw [z, h9] at hDn2; cases hDn2
            refine ⟨us9, found ++ [g], placed ++ g, Dn2, _, _, _, _, rfl, (exs_base hFo (e5.trans e68) x9).trans e10, e10 _ _ h9, by rw [List.map_append]; exact r9.ex e10, h10, hDF2, ?_, ?_, ?_, by rw [List.length_append, hfl]; rfl, by rw [List.length_append]; omega⟩
            · rw [← wait_erase (gls_nodup hC), hW]
              exact winv_step wi hgm
            · rw [← wait_erase (gls_nodup hC), hW, ← htop, List.append_assoc, hWl, topo, hg]
              rfl
            · rw [← wait_erase (gls_nodup hC), hW]
              omega
          · refine ⟨_, _, rfl, e67.trans e8, fun k g2 hk hg2 => ?_⟩
            by_cases ek : k = j
            · subst ek
              rw [hg'] at hg2
              cases hg2
              exact hB
            · exact hno k g2 (by omega) hg2
        · exfalso
          obtain ⟨x4, x8, rfl, e6, hno⟩ := p
          obtain ⟨j, hj, ej⟩ := List.getElem_of_mem (List.mem_of_find?_eq_some hfind)
          have := hno j g (by omega) (by rw [List.getElem?_eq_getElem hj, ej])
          rw [List.find?_some hfind] at this
          cases this
      · rintro σ2 H5 ⟨uf, found, placed, Dn, x3, x4, x7, x8, rfl, e5, hf5, rf5, hd5, hDF, wi, htop, hwl, hfl, hpl2⟩
        rw [Int.toNat_natCast] at hwl
        generalize ((gls C).filter fun x => decide (x ∉ found)) = W at wi htop hwl
        have hW0 : W.length = 0 := by omega
        rw [hW0, topo, List.append_nil] at htop
        rw [htop] at rf5
        have hFo1 : H Fo = none := fresh_back e hFo
        exact s_ret (ev_var rfl) fun H6 e6 => q Fo uf H6 hFo1 (e.trans (e5.trans e6)) (e6 _ _ hf5) (rf5.ex e6)
end
end K88

set_option maxHeartbeats 4000000
namespace K88
open PySem L2 Evl
/-! ### _law_is_int, _law_same, _law_start -/
def DpD : Nat → Da → Prop
  | 0, _ => False
  | _ + 1, .i _ => True
  | _ + 1, .s _ => True
  | n + 1, .t l => l.length ≤ 100000 ∧ ∀ e, e ∈ l → DpD n e
def spSame (K : PySem.W.Frag) (n : Nat) : Sp := fun vs H Q _ => ∃ (x y : V) (d : Da), vs = [x, y] ∧ Rep K H x d ∧ Rep K H y d ∧ DpD n d ∧ RetV (.bl true) H Q
def spStart (K : PySem.W.Frag) : Sp := fun vs H Q _ => ∃ (a : Addr) (ns : List Int), vs = [.ref a] ∧ SqL K H a (ns.map V.int) ∧ ∀ (st l : Addr) H', H st = none → Ex H H' → StOk st l ns H' → Q (.ref st) H'
section
variable {P : Program} {w : World} {K : PySem.W.Frag} {mg : Str → Option Value} {base : Heap}
theorem sc_law_is_int : FnScope ["x"] ["x"] (defScope (topS 40)) := ⟨rfl, rfl, rfl, by decide +kernel, rfl, by decide +kernel, by decide +kernel⟩
theorem ok_law_is_int {f : Addr} {fd : FuncData} (F : FnP K "_law_is_int" "_law_is_int" (topS 40) f fd) (T : Bt mg) : FnOk P w K mg base CX0 1 f fd ["x"] (spIsI K) := by
  refine F.ok sc_law_is_int (fun vs H Q E h => ?_) (fun cdv A outer s H vs Q E hr h => ?_)
  · obtain ⟨v, d, rfl, _⟩ := h
    rfl
  · obtain ⟨v, d, rfl, hd, k⟩ := h
    refine ⟨_, PSs.nox
      (pss_one (ps_ret (pe_and (pe_callB (call_isiK K rfl) (by rfl) T.m_isinstance (by decide +kernel) (pa_cons (pv 0) (pa_cons (pe_bltn (v := .ty "int") (by rfl) T.m_int (by decide +kernel) rfl) pa_nil))) (pe_one (pe_not (pe_callB (call_isiK K rfl) (by rfl) T.m_isinstance (by decide +kernel) (pa_cons (pv 0) (pa_cons (pe_bltn (v := .ty "bool") (by rfl) T.m_bool (by decide +kernel) rfl) pa_nil)))))))), ?_⟩
    exact s_ret (ev_is (ev_andV (ev_isInt (ev_var rfl) hd) fun _ => ev_notV (ev_isBool (ev_var rfl) hd)) (by cases d <;> rfl)) k
theorem sc_law_same : FnScope ["x", "y", "k"] ["x", "y"] (defScope (topS 41)) := ⟨rfl, rfl, rfl, by decide +kernel, rfl, by decide +kernel, by decide +kernel⟩
theorem ok_law_same {d : Nat} {f : Addr} {fd : FuncData} (F : FnP K "_law_same" "_law_same" (topS 41) f fd) (T : Bt mg) (h_law_is_int : Has P w K mg base "_law_is_int" ["x"] 1 (spIsI K)) (h_law_same : Has P w K mg base "_law_same" ["x", "y"] (1 + d) (spSame K d)) : FnOk P w K mg base CX0 (1 + d + 1) f fd ["x", "y"] (spSame K (d + 1)) := by
  refine F.ok sc_law_same (fun vs H Q E h => ?_) (fun cdv A outer s H vs Q E hr h => ?_)
  · obtain ⟨x, y, dd, rfl, _⟩ := h
    rfl
  · obtain ⟨x, y, dd, rfl, hx, hy, hdp, q⟩ := h
    refine ⟨_, PSs.nox
      (pss_cons (ps_if (pt_val (pe_callB (call_isiK K rfl) (by rfl) T.m_isinstance (by decide +kernel) (pa_cons (pv 1) (pa_cons (pe_bltn (v := .ty "tuple") (by rfl) T.m_tuple (by decide +kernel) rfl) pa_nil)))) (pss_cons (ps_if (PW.pt (pw_or (pt_not (pt_val (pe_callB (call_isiK K rfl) (by rfl) T.m_isinstance (by decide +kernel) (pa_cons (pv 0) (pa_cons (pe_bltn (v := .ty "tuple") (by rfl) T.m_tuple (by decide +kernel) rfl) pa_nil))))) (pw_or1 (pt_cmpR op_ne (pe_callB (call_lenK K rfl) (by rfl) T.m_len (by decide +kernel) (pa_cons (pv 0) pa_nil)) (pe_callB (call_lenK K rfl) (by rfl) T.m_len (by decide +kernel) (pa_cons (pv 1) pa_nil)) (nomark _))))) (pss_one (ps_ret pe_bl)) pss_nil)
      (pss_one (ps_ret (pe_callB (cr_allK K rfl rfl) (by rfl) T.m_all (by decide +kernel) (pa_cons (pe_lc (own := [("k", 2)])  rfl sc_law_same.nd  (pi_range1 (by rfl) T.m_range (pa_cons (pe_callB (call_lenK K rfl) (by rfl) T.m_len (by decide +kernel) (pa_cons (pv 1) pa_nil)) pa_nil)) (blkOk_by (own := [("k", 2)]) (N := ["x", "y", "k"]) (sc := defScope (topS 41)) (by decide +kernel)) (fun _ _ _ _ _ => (pg_name (i := 2) sc_law_same.nd rfl (Or.inl rfl))) (fun _ _ _ _ _ => pts_nil) (fun _ _ _ _ _ => (pe_callH h_law_same (hr.mono (by omega)) (by rfl) (pa_cons (pe_ix (ix_tupK K rfl) (pv 0) (pv 2) (fun _ _ => rfl)) (pa_cons (pe_ix (ix_tupK K rfl) (pv 1) (pv 2) (fun _ _ => rfl)) pa_nil))))) pa_nil))))) pss_nil)
      (pss_cons (ps_if (pt_val (pe_callB (call_isiK K rfl) (by rfl) T.m_isinstance (by decide +kernel) (pa_cons (pv 1) (pa_cons (pe_bltn (v := .ty "str") (by rfl) T.m_str (by decide +kernel) rfl) pa_nil)))) (pss_one (ps_ret (pe_and (pe_callB (call_isiK K rfl) (by rfl) T.m_isinstance (by decide +kernel) (pa_cons (pv 0) (pa_cons (pe_bltn (v := .ty "str") (by rfl) T.m_str (by decide +kernel) rfl) pa_nil))) (pe_one (pe_cmpR op_eq (pv 0) (pv 1) (nomark _)))))) pss_nil)
      (pss_one (ps_ret (pe_and (pe_callH h_law_is_int (hr.mono (by omega)) (by rfl) (pa_cons (pv 0) pa_nil)) (pe_one (pe_cmpR op_eq (pv 0) (pv 1) (nomark _)))))))), ?_⟩
    refine q_when (et_B (ev_isTup (ev_var rfl) hy)) (fun hB H1 e1 => ?_) (fun hB H1 e1 => ?_)
    · cases dd with
      | i n => cases hB
      | s n => cases hB
      | t ds =>
        obtain ⟨hz, hds⟩ := hdp
        have hx1 := hx.ex e1
        have hy1 := hy.ex e1
        refine q_when (b := false) (et_is (et_or (et_not (et_B (ev_isTup (ev_var rfl) hx1))) fun _ => et_test (ev_op (ev_lenR (ev_var rfl) hx1) (ev_lenR (ev_var rfl) hy1) (rv_ne rfl))) (by simp [isT])) (fun hB2 H2 e2 => absurd hB2 (by decide)) (fun _ H2 e2 => ?_)
        have hx2 := hx1.ex e2
        have hy2 := hy1.ex e2
        refine s_ret (ev_is (ev_all (bs := List.replicate ds.length true) (ep_L (el_range1 (k := (ds.length : Int)) ((List.replicate ds.length true).map V.bl) (ea_cons (ev_lenR (ev_var rfl) hy2) ea_nil) (by simp) (by omega) (fun _ => rfl) fun i y' hy' => ?_))) (by simp)) fun H3 e3 => q H3 ((e1.trans e2).trans e3)
        rw [List.getElem?_map, Option.map_eq_some_iff] at hy'
        obtain ⟨b, hb, rfl⟩ := hy'
        have hib : i < ds.length := by have := (List.getElem?_eq_some_iff.mp hb).1; simpa using this
        have hbt : b = true := by
          have := List.mem_of_getElem? hb
          exact List.eq_of_mem_replicate this
        subst hbt
        obtain ⟨e, he⟩ : ∃ e, ds[i]? = some e := ⟨_, List.getElem?_eq_getElem hib⟩
        refine ev_callA (PA := fun vs H => Reps K H vs [e, e]) (er_cons (ev_ixD (ev_var rfl) (ev_var rfl) hx2 he) (er_cons (ev_ixD (ev_var rfl) (ev_var rfl) hy2 he) er_nil)) fun vs H3 e3 r3 Q' hQ E' => ?_
        obtain ⟨u1, u2, rfl, k1, k2⟩ := reps_two r3
        exact ⟨u1, u2, e, rfl, k1, k2, hds e (List.mem_of_getElem? he), hQ⟩
    · have hx1 := hx.ex e1
      have hy1 := hy.ex e1
      refine q_when (et_B (ev_isStr (ev_var rfl) hy1)) (fun hB2 H2 e2 => ?_) (fun hB2 H2 e2 => ?_)
      · cases dd with
        | i n => cases hB2
        | t n => cases hB
        | s z =>
          have ex := rep_str hx
          have ey := rep_str hy
          subst ex ey
          refine s_ret (ev_is (ev_andV (ev_isStr (d := .s z) (ev_var rfl) (hx1.ex e2)) fun _ => ev_op (ev_var rfl) (ev_var rfl) (rv_eq rfl)) (by simp [isS])) fun H3 e3 => q H3 ((e1.trans e2).trans e3)
      · cases dd with
        | s n => cases hB2
        | t n => cases hB
        | i z =>
          have ex := rep_intv hx
          have ey := rep_intv hy
          subst ex ey
          refine s_ret (ev_is (ev_andV (ev_callV (ea_cons (ev_var rfl) ea_nil) fun H3 e3 Q' hQ E' => ⟨.int z, .i z, rfl, (hx1.ex e2).ex e3, hQ⟩) fun _ => ev_op (ev_var rfl) (ev_var rfl) (rv_eq rfl)) (by simp [isI])) fun H3 e3 => q H3 ((e1.trans e2).trans e3)
theorem sc_law_start : FnScope ["script"] ["script"] (defScope (topS 39)) := ⟨rfl, rfl, rfl, by decide +kernel, rfl, by decide +kernel, by decide +kernel⟩
theorem ok_law_start {f : Addr} {fd : FuncData} (F : FnP K "_law_start" "_law_start" (topS 39) f fd) (T : Bt mg) : FnOk P w K mg base CX0 1 f fd ["script"] (spStart K) := by
  refine F.ok sc_law_start (fun vs H Q E h => ?_) (fun cdv A outer s H vs Q E hr h => ?_)
  · obtain ⟨a, ns, rfl, _⟩ := h
    rfl
  · obtain ⟨a, ns, rfl, ha, k⟩ := h
    refine ⟨_, PSs.nox
      (pss_one (ps_ret (pe_lst (pa_cons (pe_callTy (call_list_ofK K rfl) (by rfl) T.m_list (by decide +kernel) (pa_cons (pv 0) pa_nil)) (pa_cons pe_int (pa_cons pe_int (pa_cons pe_int pa_nil))))))), ?_⟩
    refine ⟨_, rfl, a, _, rfl, .inl ha, fun l hl => ⟨by show 4 ≤ sizeLine; decide, fun st hst => k st l _ ?_ ?_ ?_⟩⟩
    · exact fresh_back (Ex.new hl) hst
    · exact (Ex.new hl).trans (Ex.new hst)
    · have hne : l ≠ st := fun z => by rw [z, upd_same] at hst; cases hst
      exact ⟨by rw [upd_ne hne, upd_same], 0, 0, 0, upd_same⟩
end
end K88

set_option maxHeartbeats 4000000
namespace K88
open PySem L2 Evl
/-! ### what draws -/
def TupOnly (P : V → Hp → Prop) : Prop := ∀ v H H', (∀ a xs, H a = some (.tup xs) → H' a = some (.tup xs)) → P v H → P v H'
theorem Exs.tups {st l : Addr} {ns : List Int} {H H' : Hp} (S : StOk st l ns H) (x : Exs st H H') : ∀ a xs, H a = some (.tup xs) → H' a = some (.tup xs) := fun a xs h => by
  obtain ⟨_, _, _, _, h2⟩ := S
  exact x a _ (fun e => by rw [e, h2] at h; cases h) h
theorem Exs.mutD {st : Addr} {H H' : Hp} {D : Addr} {o : HO} (e : Exs st H H') (hD : H D = none) : Exs st H (L2.upd H' D o) := fun b u n h => by
  rw [upd_ne (fun z => by rw [z, hD] at h; cases h)]
  exact e b u n h
theorem StOk.rep {K : PySem.W.Frag} {st l : Addr} {ns : List Int} {H H' : Hp} (S : StOk st l ns H) (x : Exs st H H') {v : V} {d : Da} (r : Rep K H v d) : Rep K H' v d := by
  obtain ⟨_, _, _, _, h2⟩ := S
  exact r.exs h2 x
theorem StOk.reps {K : PySem.W.Frag} {st l : Addr} {ns : List Int} {H H' : Hp} (S : StOk st l ns H) (x : Exs st H H') {v : List V} {d : List Da} (r : Reps K H v d) : Reps K H' v d := by
  obtain ⟨_, _, _, _, h2⟩ := S
  exact r.exs h2 x
theorem StOk.nst {st l a : Addr} {ns : List Int} {H : Hp} (S : StOk st l ns H) (h : H a = none) : a ≠ st ∧ a ≠ l := by
  obtain ⟨h1, _, _, _, h2⟩ := S
  exact ⟨fun z => (by rw [z, h2] at h; cases h), fun z => (by rw [z, h1] at h; cases h)⟩
theorem StOk.upd_ {st l a : Addr} {ns : List Int} {H : Hp} {o : HO} (S : StOk st l ns H) (h1 : a ≠ st) (h2 : a ≠ l) : StOk st l ns (upd H a o) := by
  obtain ⟨k1, x, y, z, k2⟩ := S
  exact ⟨(by rw [upd_ne h2.symm]; exact k1), x, y, z, (by rw [upd_ne h1.symm]; exact k2)⟩
theorem StOk.exs_ {st l a : Addr} {ns : List Int} {H H' : Hp} (S : StOk st l ns H) (h1 : a ≠ st) (h2 : a ≠ l) (x : Exs a H H') : StOk st l ns H' := by
  obtain ⟨k1, u, y, z, k2⟩ := S
  exact ⟨x _ _ h2.symm k1, u, y, z, x _ _ h1.symm k2⟩
section
variable {K : PySem.W.Frag} {σ : L2.St} {H : Hp} {D : Ends} {te : TE} {ta : TA} {Q : VK} {st l : Addr} {ns : List Int}
theorem m_draw {most : Int} (h0 : σ[0]? = some (some (.ref st))) (m0 : 0 < most) (m1 : most ≤ 1000) (hl : ns.length ≤ 1000) (S : StOk st l ns H) (k : ∀ (r : Nat) H', (r : Int) < most → Exs st H H' → StOk st l ns H' → Q (.int (r : Int)) H') : tCall spDraw [] E0 (tCons (tVar 0) (tCons (tC (.int most)) tNil)) σ H Q :=
  m_call (ea_cons (ev_var h0) (ea_cons ev_c ea_nil)) fun H1 e1 => ⟨st, l, ns, most, rfl, m0, m1, hl, S.ex e1, fun r H2 r0 r1 x S' => by
    have z := k r.toNat H2 (by omega) ((Ex.s e1).trans x) S'
    rw [show ((r.toNat : Nat) : Int) = r by omega] at z
    exact z⟩
/-- a comprehension over a range whose items draw -/
theorem m_lcR {j n : Nat} {vs : List Nat} (P : V → Hp → Prop) (hP : TupOnly P) (h : EvA ta σ H [.int (n : Int)]) (hn : n ≤ 1000) (S : StOk st l ns H) (hw : ∀ x, wipe ((wipe σ vs).set j (some x)) vs = wipe σ vs)
    (item : ∀ (i : Nat) Ha (R : VK), i < n → Exs st H Ha → StOk st l ns Ha → (∀ v Hb, Exs st Ha Hb → StOk st l ns Hb → P v Hb → R v Hb) → te ((wipe σ vs).set j (some (.int (i : Int)))) Ha R)
    (k : ∀ Dl out H', Exs st H H' → StOk st l ns H' → Dl ≠ st → H' Dl = some (.lst out) → out.length = n → (∀ v, v ∈ out → P v H') → Q (.ref Dl) H') : tLc (iRng1 ta) (gName j) tYes te vs σ H Q :=
  h H (Ex.refl _) _ fun H1 e1 => ⟨(n : Int), rfl, by omega, by omega, fun Dl hD => by
    have S1 := S.ex e1
    obtain ⟨hDst, hDl⟩ := S1.nst hD
    refine lc_it (walk_range (lo := 0) (n := (n : Int).toNat)) (fun i H' => Exs st H1 H' ∧ StOk st l ns H' ∧ ∃ out : List V, out.length = i ∧ H' Dl = some (.lst out) ∧ ∀ v, v ∈ out → P v H') ?_ (fun _ _ _ _ => trivial) ?_ ?_
    · exact ⟨(Exs.refl H1).mutD hD, S1.upd_ hDst hDl, [], rfl, upd_same, fun v hv => by cases hv⟩
    · rintro i x Ha Hb hi ⟨xa, Sa, out, hl, hL, hP0⟩ ⟨rfl, rfl⟩
      refine ⟨hw _, ?_⟩
      show te ((wipe σ vs).set j (some (.int ((0 : Int) + (i : Int))))) Hb _
      have ei : (0 : Int) + (i : Int) = (i : Int) := Int.zero_add _
      rw [ei]
      refine item i Hb _ (by omega) ((Ex.s e1).trans xa) Sa fun v Hc xc Sc pv => ?_
      have hLc := xc _ _ hDst hL
      have tD : ∀ a xs, Hc a = some (.tup xs) → upd Hc Dl (.lst (out ++ [v])) a = some (.tup xs) := fun a xs h => by
        rw [upd_ne (fun z => by rw [z, hLc] at h; cases h)]; exact h
      refine ⟨out, hLc, sz_lt (by omega), (xa.trans xc).mutD hD, Sc.upd_ hDst hDl, out ++ [v], by simp [hl], upd_same, fun u hu => ?_⟩
      rcases List.mem_append.mp hu with hu | hu
      · exact hP u _ _ tD (hP u _ _ (Exs.tups Sa xc) (hP0 u hu))
      · have : u = v := by simpa using hu
        rw [this]
        exact hP v _ _ tD pv
    · rintro H' ⟨xa, Sa, out, hl, hL, hP0⟩
      exact k Dl out H' ((Ex.s e1).trans xa) Sa hDst hL (by omega) hP0⟩
end
section
variable {K : PySem.W.Frag} {σ : L2.St} {H : Hp} {ta tb te : TE} {tr : TA} {D : Ends} {tu tz : TS}
theorem m_cb1 {Q : VK} {r : List V → Hp → VK → Prop} (h : te σ H fun x H1 => r [x] H1 Q) : tCB r (tCons te tNil) σ H Q := h
theorem m_cons {Q : List V → Hp → Prop} (h : ta σ H fun x H1 => tr σ H1 fun r H2 => Q (x :: r) H2) : tCons ta tr σ H Q := h
theorem m_nil {Q : List V → Hp → Prop} (h : Q [] H) : tNil σ H Q := h
theorem s_asgM {i : Nat} (h : te σ H fun v H1 => D.nx (σ.set i (some v)) H1) : tAsg te (gName i) D σ H := h
theorem q_asgM {i : Nat} (h : te σ H fun v H1 => tz D (σ.set i (some v)) H1) : tSeq (tAsg te (gName i)) tz D σ H := h
theorem s_retM (h : te σ H D.rt) : tRet te D σ H := h
end
/-! ### words -/
structure Wrd (x : Str) : Prop where
  len : x.length ≤ 10
  sh : ∀ y, x ≠ hsh y
  so : PyData.strOk x = true
def alph : Str := "abcdefghijklmnopqrstuvwxyz"
def letr (m : Nat) : Str := ⟨#[alph.cps.toList.getD m 0]⟩
def shrd (d : Nat) : Str := cutS "qxz" none (some (d : Int))
def wordA (d m : Nat) : Str := shrd d ++ letr m
def wordB (d m : Nat) : Str := letr m ++ shrd d
theorem hsh_head (y : Str) : (hsh y).cps.toList.head? = some 35 := by
  unfold hsh
  show (("#" : Str).cps ++ y.cps).toList.head? = some 35
  rw [Array.toList_append, show ("#" : Str).cps.toList = [35] from by decide +kernel]
  rfl
theorem wrd_of {x : Str} (h : (decide (x.length ≤ 10) && decide (x.cps.toList.head? ≠ some 35) && PyData.strOk x) = true) : Wrd x := by
  rw [Bool.and_eq_true, Bool.and_eq_true, decide_eq_true_eq, decide_eq_true_eq] at h
  exact ⟨h.1.1, fun y e => h.1.2 (by rw [e, hsh_head]), h.2⟩
theorem wordA_ok : ∀ d < 4, ∀ m < 26, (decide ((wordA d m).length ≤ 10) && decide ((wordA d m).cps.toList.head? ≠ some 35) && PyData.strOk (wordA d m)) = true := by decide +kernel
theorem wordB_ok : ∀ d < 4, ∀ m < 26, (decide ((wordB d m).length ≤ 10) && decide ((wordB d m).cps.toList.head? ≠ some 35) && PyData.strOk (wordB d m)) = true := by decide +kernel
theorem wordA_inj : ∀ d < 4, ∀ m < 26, ∀ k < 26, wordA d m = wordA d k → m = k := by decide +kernel
theorem wordB_inj : ∀ d < 4, ∀ m < 26, ∀ k < 26, wordB d m = wordB d k → m = k := by decide +kernel
theorem lett_inj : ∀ s < 26, ∀ t < 6, ∀ k < 6, ∀ j < 6, (s + k * (1 + 2 * t)) % 26 = (s + j * (1 + 2 * t)) % 26 → k = j := by decide +kernel
theorem alph_at : ∀ m < 26, alph.cps.toList[m]? = some (alph.cps.toList.getD m 0) := by decide +kernel
theorem alph_len : alph.cps.toList.length = 26 := by decide +kernel
end K88

set_option maxHeartbeats 4000000
namespace K88
open PySem L2 Evl
def spShuf : Sp := fun vs H Q _ => ∃ (st l p : Addr) (ns : List Int) (xs : List Str), vs = [.ref st, .ref p] ∧ H p = some (.lst (xs.map V.str)) ∧ p ≠ st ∧ xs.length ≤ 100 ∧ ns.length ≤ 1000 ∧ StOk st l ns H ∧
  ∀ (q : Addr) (ys : List Str) H', ys.Perm xs → H q = none → Exs st H H' → StOk st l ns H' → H' q = some (.lst (ys.map V.str)) → Q (.ref q) H'
def spWords : Sp := fun vs H Q _ => ∃ (st l : Addr) (ns : List Int) (m : Nat), vs = [.ref st, .int (m : Int)] ∧ m ≤ 6 ∧ ns.length ≤ 1000 ∧ StOk st l ns H ∧
  ∀ (q : Addr) (ws : List Str) H', ws.length = m → ws.Nodup → (∀ x, x ∈ ws → Wrd x) → H q = none → Exs st H H' → StOk st l ns H' → H' q = some (.lst (ws.map V.str)) → Q (.ref q) H'
theorem nodup_range_map {f : Nat → Str} : ∀ m : Nat, (∀ k < m, ∀ j < m, f k = f j → k = j) → ((List.range m).map f).Nodup
  | 0, _ => by simp
  | m + 1, h => by
    rw [List.range_succ, List.map_append, List.nodup_append]
    refine ⟨nodup_range_map m fun k hk j hj e => h k (by omega) j (by omega) e, by simp, fun a ha b hb e => ?_⟩
    obtain ⟨k, hk, rfl⟩ := List.mem_map.mp ha
    have hb' : b = f m := by simpa using hb
    rw [hb'] at e
    have := h k (by have := List.mem_range.mp hk; omega) m (by omega) e
    have := List.mem_range.mp hk
    omega
section
variable {P : Program} {w : World} {K : PySem.W.Frag} {mg : Str → Option Value} {base : Heap}
theorem sc_law_shuffled : FnScope ["state", "items", "found", "item"] ["state", "items"] (defScope (topS 25)) := ⟨rfl, rfl, rfl, by decide +kernel, rfl, by decide +kernel, by decide +kernel⟩
theorem ok_law_shuffled {f : Addr} {fd : FuncData} (F : FnP K "_law_shuffled" "_law_shuffled" (topS 25) f fd) (T : Bt mg) (h_law_draw : Has P w K mg base "_law_draw" ["state", "most"] 1 spDraw) : FnOk P w K mg base CX0 2 f fd ["state", "items"] spShuf := by
  refine F.ok sc_law_shuffled (fun vs H Q E h => ?_) (fun cdv A outer s H vs Q E hr h => ?_)
  · obtain ⟨st, l, p, ns, xs, rfl, _⟩ := h
    rfl
  · obtain ⟨st, l, p, ns, xs, rfl, hp, hne, hx, hn, S, q⟩ := h
    refine ⟨_, PSs.nox
      (pss_cons (ps_set (i := 2) sc_law_shuffled.nd rfl (Or.inl rfl) (pe_lst pa_nil))
      (pss_cons (ps_for PassesOwn.never rfl (pi_listK K rfl (pv 1)) (pg_name (i := 3) sc_law_shuffled.nd rfl (Or.inl rfl)) (pss_one (ps_expr (pe_bm PySem.F.plainAttrs_list PySem.F.slot_list_insert PySem.F.type_list_insert mt_insert (pv 2) (pa_cons (pe_callH h_law_draw (hr.mono (by decide)) (by rfl) (pa_cons (pv 0) (pa_cons (pe_op op_add (pe_callB (call_lenK K rfl) (by rfl) T.m_len (by decide +kernel) (pa_cons (pv 2) pa_nil)) pe_int) pa_nil))) (pa_cons (pv 3) pa_nil))))))
      (pss_one (ps_ret (pv 2))))), ?_⟩
    refine q_asgR (ef_nil K) fun F us0 H1 hF e1 h1 r1 => ?_
    have eus := reps_strs (xs := []) r1
    subst eus
    obtain ⟨hFst, hFl⟩ := S.nst hF
    have hpF : p ≠ F := fun z => by rw [z, hF] at hp; cases hp
    refine q_seq (s_forL (xs := xs.map V.str) (g := gName 3) (ev_var rfl) (sq_of (e1 _ _ hp)) (fun i σ' H' => ∃ ys x3, σ' = [some (.ref st), some (.ref p), some (.ref F), x3] ∧ Exs st H H' ∧ StOk st l ns H' ∧ H' F = some (.lst (ys.map V.str)) ∧ ys.Perm (xs.take i)) (fun H2 e2 => ⟨[], _, rfl, Ex.s (e1.trans e2), S.ex (e1.trans e2), e2 _ _ h1, by simp⟩) (fun i σ' H' _ p => ?_) (fun i v σ' H' hv p => ?_) (fun σ' H' p => ?_))
    · obtain ⟨_, _, _, x, _⟩ := p
      exact sq_of (x _ _ hne hp)
    · obtain ⟨ys, x3, rfl, x, S1, hf, hperm⟩ := p
      rw [List.getElem?_map, Option.map_eq_some_iff] at hv
      obtain ⟨z, hz, rfl⟩ := hv
      have hyl : ys.length ≤ i := by rw [hperm.length_eq]; exact List.length_take_le i xs
      have hil : i < xs.length := (List.getElem?_eq_some_iff.mp hz).1
      show tDrop _ _ [some (V.ref st), some (.ref p), some (.ref F), some (.str z)] H'
      refine ⟨_, rfl, Or.inl ⟨rfl, _, sq_of hf⟩, ?_⟩
      refine m_cons (m_call (ea_cons (ev_var rfl) (ea_cons (ev_op (ev_lenL (ev_var rfl) hf) ev_c rv_I0) ea_nil)) fun H3 e3 => ?_)
      have e23 := e3
      refine ⟨st, l, ns, _, rfl, by omega, by rw [List.length_map]; omega, hn, S1.ex e23, fun r H4 r0 r1 x4 S4 => ?_⟩
      rw [List.length_map] at r1
      refine m_cons ⟨_, rfl, m_nil ?_⟩
      have e5 : Ex H4 H4 := Ex.refl _
      have hf5 := e5 _ _ (x4 _ _ hFst (e23 _ _ hf))
      refine ⟨F, ys.map V.str, r, .str z, rfl, rfl, hf5, sz_lt (by rw [List.length_map]; omega), r0, by omega, ys.take r.toNat ++ [z] ++ ys.drop r.toNat, _, rfl, ?_, (S4.ex e5).upd_ hFst hFl, ?_, ?_⟩
      · exact ((((x.trans (Ex.s e23)).trans x4).trans (Ex.s e5))).mutD hF
      · rw [upd_same, List.map_append, List.map_append, List.map_take, List.map_drop]
        rfl
      · rw [take_succ_of hz]
        refine List.Perm.trans ?_ (List.Perm.append_right [z] hperm)
        rw [List.append_assoc]
        refine List.Perm.trans (List.Perm.append_left _ List.perm_append_comm) ?_
        rw [← List.append_assoc, List.take_append_drop]
    · obtain ⟨ys, x3, rfl, x, S1, hf, hperm⟩ := p
      rw [List.length_map, List.take_length] at hperm
      exact s_ret (ev_var rfl) fun H3 e3 => q F ys H3 hperm hF (x.trans (Ex.s e3)) (S1.ex e3) (e3 _ _ hf)
theorem ev_letr {σ : L2.St} {H : Hp} {ta tb : TE} {m : Nat} (h : Ev ta σ H (.str alph)) (hb : Ev tb σ H (.int (m : Int))) (hm : m < 26) : Ev (tOp rIxS ta tb) σ H (.str (letr m)) :=
  ev_op h hb fun H1 e Q q => ⟨alph, (m : Int), _, rfl, rfl, by show alph.length ≤ _; rw [show alph.length = 26 from by decide +kernel, sizeLine_eq]; omega, atI_nat (alph_at m hm), q H1 (Ex.refl _)⟩
theorem ev_idx {σ : L2.St} {H : Hp} {s t k : Nat} {tk ts tt : TE} (hs : s < 26) (ht : t < 6) (hk : k < 6) (h1 : Ev ts σ H (.int (s : Int))) (h2 : Ev tk σ H (.int (k : Int))) (h3 : Ev tt σ H (.int (1 + 2 * (t : Int)))) :
    Ev (tOp (rI (fun _ j => 0 < j) fun i j => V.int (i % j)) (tCB (fun xs H Q => (∃ i, xs = [V.int i] ∧ Q (V.int i) H) ∨ ∃ k, xs = [V.bl k] ∧ Q (V.int (if k then 1 else 0)) H) (tCons (tOp (rI0 fun i j => V.int (i + j)) ts (tOp (rI CMul fun i j => V.int (i * j)) tk tt)) tNil)) (tC (.int 26))) σ H (.int (((s + k * (1 + 2 * t)) % 26 : Nat) : Int)) :=
  ev_is (ev_op (ev_int1 (ev_op h1 (ev_op h2 h3 (rv_mulR ⟨by omega, by omega⟩)) rv_I0)) ev_c (rv_mod (by decide))) (by congr 1)
theorem sc_law_words : FnScope ["state", "many", "letters", "start", "step", "shared", "k"] ["state", "many"] (defScope (topS 28)) := ⟨rfl, rfl, rfl, by decide +kernel, rfl, by decide +kernel, by decide +kernel⟩
theorem ok_law_words {f : Addr} {fd : FuncData} (F : FnP K "_law_words" "_law_words" (topS 28) f fd) (T : Bt mg) (h_law_draw : Has P w K mg base "_law_draw" ["state", "most"] 1 spDraw) : FnOk P w K mg base CX0 2 f fd ["state", "many"] spWords := by
  refine F.ok sc_law_words (fun vs H Q E h => ?_) (fun cdv A outer s H vs Q E hr h => ?_)
  · obtain ⟨st, l, ns, m, rfl, _⟩ := h
    rfl
  · obtain ⟨st, l, ns, m, rfl, hm, hn, S, q⟩ := h
    refine ⟨_, PSs.nox
      (pss_cons (ps_set (i := 2) sc_law_words.nd rfl (Or.inr rfl) pe_str)
      (pss_cons (ps_set (i := 3) sc_law_words.nd rfl (Or.inr rfl) (pe_callH h_law_draw (hr.mono (by decide)) (by rfl) (pa_cons (pv 0) (pa_cons pe_int pa_nil))))
      (pss_cons (ps_set (i := 4) sc_law_words.nd rfl (Or.inr rfl) (pe_op op_add pe_int (pe_op op_mul pe_int (pe_callH h_law_draw (hr.mono (by decide)) (by rfl) (pa_cons (pv 0) (pa_cons pe_int pa_nil))))))
      (pss_cons (ps_set (i := 5) sc_law_words.nd rfl (Or.inr rfl) (pe_slice sl_str pe_str po_none (po_some (pe_callH h_law_draw (hr.mono (by decide)) (by rfl) (pa_cons (pv 0) (pa_cons pe_int pa_nil))))))
      (pss_cons (ps_if (pt_cmpR op_eq (pe_callH h_law_draw (hr.mono (by decide)) (by rfl) (pa_cons (pv 0) (pa_cons pe_int pa_nil))) pe_int (nomark _)) (pss_one (ps_ret (pe_lc (own := [("k", 6)])  rfl sc_law_words.nd  (pi_range1 (by rfl) T.m_range (pa_cons (pv 1) pa_nil)) (blkOk_by (own := [("k", 6)]) (N := ["state", "many", "letters", "start", "step", "shared", "k"]) (sc := defScope (topS 28)) (by decide +kernel)) (fun _ _ _ _ _ => (pg_name (i := 6) sc_law_words.nd rfl (Or.inl rfl))) (fun _ _ _ _ _ => pts_nil) (fun _ _ _ _ _ => (pe_op op_add_str (pv 5) (pe_ix ix_str (pv 2) (pe_op op_mod (pe_callTy call_int1 (by rfl) T.m_int (by decide +kernel) (pa_cons (pe_op op_add (pv 3) (pe_op op_mul (pv 6) (pv 4))) pa_nil)) pe_int) (fun _ _ => rfl))))))) pss_nil)
      (pss_one (ps_ret (pe_lc (own := [("k", 6)])  rfl sc_law_words.nd  (pi_range1 (by rfl) T.m_range (pa_cons (pv 1) pa_nil)) (blkOk_by (own := [("k", 6)]) (N := ["state", "many", "letters", "start", "step", "shared", "k"]) (sc := defScope (topS 28)) (by decide +kernel)) (fun _ _ _ _ _ => (pg_name (i := 6) sc_law_words.nd rfl (Or.inl rfl))) (fun _ _ _ _ _ => pts_nil) (fun _ _ _ _ _ => (pe_op op_add_str (pe_ix ix_str (pv 2) (pe_op op_mod (pe_callTy call_int1 (by rfl) T.m_int (by decide +kernel) (pa_cons (pe_op op_add (pv 3) (pe_op op_mul (pv 6) (pv 4))) pa_nil)) pe_int) (fun _ _ => rfl)) (pv 5))))))))))), ?_⟩
    refine q_asg ev_c fun H1 e1 => ?_
    refine q_asgM (m_draw rfl (by decide) (by decide) hn (S.ex e1) fun s H2 hs x2 S2 => ?_)
    have hs' : s < 26 := by omega
    refine q_asgM (ev_c H2 (Ex.refl _) _ fun H3 e3 => ev_c H3 (Ex.refl _) _ fun H4 e4 => m_draw rfl (by decide) (by decide) hn (S2.ex (e3.trans e4)) fun t H5 ht x5 S5 => rv_mulR ⟨by omega, by omega⟩ H5 (Ex.refl _) _ fun H6 e6 => rv_I0 H6 (Ex.refl _) _ fun H7 e7 => ?_)
    have ht' : t < 6 := by omega
    have x07 : Exs st H H7 := ((((Ex.s e1).trans x2).trans (Ex.s (e3.trans e4))).trans x5).trans (Ex.s (e6.trans e7))
    have S7 := S5.ex (e6.trans e7)
    refine q_asgM (ev_c H7 (Ex.refl _) _ fun H8 e8 => m_draw rfl (by decide) (by decide) hn (S7.ex e8) fun d H9 hd x9 S9 => ⟨_, rfl, _, rfl, by show (3 : Nat) ≤ sizeLine; rw [sizeLine_eq]; omega, ?_⟩)
    have hd' : d < 4 := by omega
    have x09 : Exs st H H9 := (x07.trans (Ex.s e8)).trans x9
    have idx : ∀ (k : Nat) H', k < 6 → Ev (tOp (rI (fun _ j => 0 < j) fun i j => V.int (i % j)) (tCB (fun xs H Q => (∃ i, xs = [V.int i] ∧ Q (V.int i) H) ∨ ∃ k, xs = [V.bl k] ∧ Q (V.int (if k then 1 else 0)) H) (tCons (tOp (rI0 fun i j => V.int (i + j)) (tVar 3) (tOp (rI CMul fun i j => V.int (i * j)) (tVar 6) (tVar 4))) tNil)) (tC (.int 26))) [some (.ref st), some (.int (m : Int)), some (.str alph), some (.int (s : Int)), some (.int (1 + 2 * (t : Int))), some (.str (shrd d)), some (.int (k : Int))] H' (.int (((s + k * (1 + 2 * t)) % 26 : Nat) : Int)) := fun k H' hk =>
      ev_idx hs' ht' hk (ev_var rfl) (ev_var rfl) (ev_var rfl)
    refine m_draw (Q := _) rfl (by decide) (by decide) hn S9 fun g H10 hg x10 S10 => ?_
    have x010 := x09.trans x10
    have hlen26 : ∀ k, (s + k * (1 + 2 * t)) % 26 < 26 := fun k => Nat.mod_lt _ (by decide)
    refine (ev_c H10 (Ex.refl _) _ fun H11 e11 => ⟨rfl, _, rfl, ?_⟩)
    have x011 := x010.trans (Ex.s e11)
    have S11 := S10.ex e11
    have fresh : ∀ {p : Addr}, H11 p = none → H p = none := fun {p} hp => by
      cases hh : H p with
      | none => rfl
      | some o =>
        exfalso
        by_cases e : p = st
        · obtain ⟨_, _, _, _, h2⟩ := S11
          rw [e, h2] at hp
          cases hp
        · rw [x011 _ _ e hh] at hp
          cases hp
    dsimp only
    by_cases hb : (decide (V.int (g : Int) = V.int 0)) = true
    · rw [if_pos hb]
      refine (el_range1 (k := (m : Int)) (((List.range m).map fun k => wordA d ((s + k * (1 + 2 * t)) % 26)).map V.str) (ea_cons (ev_var rfl) ea_nil) (by simp) (by omega) (fun _ => rfl) fun i y hy => ?_) H11 (Ex.refl _) _ fun p H12 hp e12 hL => ?_
      · rw [List.getElem?_map, List.getElem?_map, Option.map_eq_some_iff] at hy
        obtain ⟨z, hz, rfl⟩ := hy
        rw [Option.map_eq_some_iff] at hz
        obtain ⟨k, hk, rfl⟩ := hz
        have hki : k = i ∧ i < m := by
          have h1 := (List.getElem?_eq_some_iff.mp hk)
          obtain ⟨h1, h2⟩ := h1
          rw [List.length_range] at h1
          rw [List.getElem_range] at h2
          exact ⟨h2.symm, h1⟩
        obtain ⟨rfl, him⟩ := hki
        refine ev_cat (ev_var rfl) (ev_letr (ev_var rfl) (idx k _ (by omega)) (hlen26 k)) ?_
        have := (wrd_of (wordA_ok d hd' _ (hlen26 k))).len
        have e : (wordA d ((s + k * (1 + 2 * t)) % 26)).length = (shrd d).length + (letr ((s + k * (1 + 2 * t)) % 26)).length := by
          show ((shrd d).cps ++ (letr ((s + k * (1 + 2 * t)) % 26)).cps).size = _
          rw [Array.size_append]
          rfl
        omega
      · refine q p _ H12 (by simp) (nodup_range_map m fun k hk j hj e => ?_) (fun x hx => ?_) (fresh hp) (x011.trans (Ex.s e12)) (S11.ex e12) hL
        · exact lett_inj s hs' t ht' k (by omega) j (by omega) (wordA_inj d hd' _ (hlen26 k) _ (hlen26 j) e)
        · obtain ⟨k, _, rfl⟩ := List.mem_map.mp hx
          exact wrd_of (wordA_ok d hd' _ (hlen26 k))
    · rw [if_neg hb]
      refine (el_range1 (k := (m : Int)) (((List.range m).map fun k => wordB d ((s + k * (1 + 2 * t)) % 26)).map V.str) (ea_cons (ev_var rfl) ea_nil) (by simp) (by omega) (fun _ => rfl) fun i y hy => ?_) H11 (Ex.refl _) _ fun p H12 hp e12 hL => ?_
      · rw [List.getElem?_map, List.getElem?_map, Option.map_eq_some_iff] at hy
        obtain ⟨z, hz, rfl⟩ := hy
        rw [Option.map_eq_some_iff] at hz
        obtain ⟨k, hk, rfl⟩ := hz
        have hki : k = i ∧ i < m := by
          have h1 := (List.getElem?_eq_some_iff.mp hk)
          obtain ⟨h1, h2⟩ := h1
          rw [List.length_range] at h1
          rw [List.getElem_range] at h2
          exact ⟨h2.symm, h1⟩
        obtain ⟨rfl, him⟩ := hki
        refine ev_cat (ev_letr (ev_var rfl) (idx k _ (by omega)) (hlen26 k)) (ev_var rfl) ?_
        have := (wrd_of (wordB_ok d hd' _ (hlen26 k))).len
        have e : (wordB d ((s + k * (1 + 2 * t)) % 26)).length = (letr ((s + k * (1 + 2 * t)) % 26)).length + (shrd d).length := by
          show ((letr ((s + k * (1 + 2 * t)) % 26)).cps ++ (shrd d).cps).size = _
          rw [Array.size_append]
          rfl
        omega
      · refine q p _ H12 (by simp) (nodup_range_map m fun k hk j hj e => ?_) (fun x hx => ?_) (fresh hp) (x011.trans (Ex.s e12)) (S11.ex e12) hL
        · exact lett_inj s hs' t ht' k (by omega) j (by omega) (wordB_inj d hd' _ (hlen26 k) _ (hlen26 j) e)
        · obtain ⟨k, _, rfl⟩ := List.mem_map.mp hx
          exact wrd_of (wordB_ok d hd' _ (hlen26 k))
end
end K88

set_option maxHeartbeats 4000000
namespace K88
open PySem L2 Evl
/-! ### statements that are drawn -/
theorem pg_unlK {X : Cx} {es : List Expr} {pos : Pos} {k n : Nat} {t : TGs} (K : PySem.W.Frag) (hK : X.K = K) (hc : X.calm = true) (h : PGs X es t) (hn : (assignEach es X.env).length = n := by rfl) (hst : (assignEach es X.env).findIdx? (·.1) = none := by rfl) : PG X (.Tuple es k pos) (gUnl K n t) := hK ▸ pg_unl hc h hn hst
abbrev Hd8 := Str × List Bool × List Str
def HdV (K : PySem.W.Frag) (H : Hp) (v : V) (h : Hd8) : Prop := ∃ (t ka : Addr) (rv : V), v = .ref t ∧ H t = some (.tup [.str h.1, .ref ka, rv]) ∧ H ka = some (.lst (h.2.1.map fun b => V.str (ikind b))) ∧ Rep K H rv (.t (h.2.2.map Da.s))
def HdOk (h : Hd8) : Prop := h.2.1.Perm [false, true, true] ∧ h.2.2.length ≤ 1
def HdL (K : PySem.W.Frag) (H : Hp) (hv : List V) (hs : List Hd8) : Prop := hv.length = hs.length ∧ ∀ (i : Nat) v h, hv[i]? = some v → hs[i]? = some h → HdV K H v h
theorem HdV.exs {K : PySem.W.Frag} {H H' : Hp} {v : V} {h : Hd8} {L : Addr} {us : List V} (hv : HdV K H v h) (ho : HdOk h) (hL : H L = some (.lst us)) (x : Exs L H H') (hn : us.length ≠ 3 ∨ ∀ u, u ∈ us → ∀ z, u ≠ .str z) : HdV K H' v h := by
  obtain ⟨t, ka, rv, rfl, h1, h2, h3⟩ := hv
  refine ⟨t, ka, rv, rfl, x _ _ (fun z => by rw [z, hL] at h1; cases h1) h1, x _ _ (fun z => ?_) h2, h3.exs hL x⟩
  rw [z, hL] at h2
  have e : us = h.2.1.map fun b => V.str (ikind b) := by injection h2 with h2; injection h2
  have hl := ho.1.length_eq
  rcases hn with hn | hn
  · rw [e, List.length_map, hl] at hn
    exact hn rfl
  · cases hk : h.2.1 with
    | nil => rw [hk] at hl; cases hl
    | cons b r =>
      rw [hk] at e
      exact hn (.str (ikind b)) (by rw [e]; exact List.mem_cons_self) _ rfl
theorem HdL.exs {K : PySem.W.Frag} {H H' : Hp} {hv : List V} {hs : List Hd8} {L : Addr} {us : List V} (h : HdL K H hv hs) (ho : ∀ h, h ∈ hs → HdOk h) (hL : H L = some (.lst us)) (x : Exs L H H') (hn : us.length ≠ 3 ∨ ∀ u, u ∈ us → ∀ z, u ≠ .str z) : HdL K H' hv hs :=
  ⟨h.1, fun i v g h1 h2 => (h.2 i v g h1 h2).exs (ho g (List.mem_of_getElem? h2)) hL x hn⟩
/-- what fits the heads and the names -/
def OkSh (hs : List Hd8) (iv av : List Str) : Stm → Prop
  | .set x _ => x ∈ iv
  | .push _ a => a ∈ av
  | .pop x a => x ∈ iv ∧ a ∈ av
  | .call c as ts _ => (∀ t, t ∈ ts → t ∈ iv) ∧ (∀ x, Arg.arr x ∈ as → x ∈ av) ∧ ∃ h, h ∈ hs ∧ h.1 = c ∧ as.map Arg.isA = h.2.1
  | _ => True
def GoodB (hs : List Hd8) (iv av : List Str) (d : Nat) (b : List Stm) : Prop := Wb d b ∧ ∀ s, s ∈ flat d b → OkSh hs iv av s
section
variable {hs : List Hd8} {iv av : List Str} {d : Nat}
theorem good_cat {b : List Stm} (hl : b.length ≤ 4) (h : ∀ s, s ∈ b → GoodB hs iv av (d + 1) [s]) : GoodB hs iv av (d + 1) b := by
  refine ⟨⟨hl, fun s hs => (h s hs).1.2 s List.mem_cons_self⟩, fun s hs' => ?_⟩
  rw [flat] at hs'
  obtain ⟨s0, h0, h1⟩ := List.mem_flatMap.mp hs'
  refine (h s0 h0).2 s ?_
  rw [flat, List.flatMap_cons]
  exact List.mem_append_left _ h1
theorem good_leaf {s : Stm} (hw : Wb (d + 1) [s]) (hf : flat (d + 1) [s] = [s]) (h : OkSh hs iv av s) : GoodB hs iv av (d + 1) [s] := ⟨hw, fun s' hs' => by
  rw [hf] at hs'
  rw [List.mem_singleton.mp hs']
  exact h⟩
theorem good_set {x : Str} {e : Da} (h : x ∈ iv) : GoodB hs iv av (d + 1) [.set x e] := good_leaf ⟨by simp, fun s hs => by rw [List.mem_singleton.mp hs]; trivial⟩ rfl h
theorem good_push {x : Str} {e : Da} (h : x ∈ av) : GoodB hs iv av (d + 1) [.push e x] := good_leaf ⟨by simp, fun s hs => by rw [List.mem_singleton.mp hs]; trivial⟩ rfl h
theorem good_store {x : Str} {e e2 : Da} : GoodB hs iv av (d + 1) [.store x e e2] := good_leaf ⟨by simp, fun s hs => by rw [List.mem_singleton.mp hs]; trivial⟩ rfl trivial
theorem good_pop {x a : Str} (h : x ∈ iv) (h2 : a ∈ av) : GoodB hs iv av (d + 1) [.pop x a] := good_leaf ⟨by simp, fun s hs => by rw [List.mem_singleton.mp hs]; trivial⟩ rfl ⟨h, h2⟩
theorem good_pause : GoodB hs iv av (d + 1) [.pause none] := good_leaf ⟨by simp, fun s hs => by rw [List.mem_singleton.mp hs]⟩ rfl trivial
theorem good_call {c : Str} {as : List Arg} {ts : List Str} (hl : ts.length ≤ 1) (h1 : ∀ t, t ∈ ts → t ∈ iv) (h2 : ∀ x, Arg.arr x ∈ as → x ∈ av) (h3 : ∃ h, h ∈ hs ∧ h.1 = c ∧ as.map Arg.isA = h.2.1) : GoodB hs iv av (d + 1) [.call c as ts none] := good_leaf ⟨by simp, fun s hs => by rw [List.mem_singleton.mp hs]; exact ⟨rfl, hl⟩⟩ rfl ⟨h1, h2, h3⟩
theorem good_ite {t : Da} {b c : List Stm} (h1 : GoodB hs iv av d b) (h2 : GoodB hs iv av d c) : GoodB hs iv av (d + 1) [.ite t b c] := by
  refine ⟨⟨by simp, fun s hs => by rw [List.mem_singleton.mp hs]; exact ⟨h1.1, h2.1⟩⟩, fun s hs' => ?_⟩
  rw [flat, List.flatMap_cons, List.flatMap_nil, List.append_nil] at hs'
  rcases List.mem_cons.mp hs' with rfl | hs'
  · trivial
  · rcases List.mem_append.mp hs' with h | h
    · exact h1.2 s h
    · exact h2.2 s h
theorem good_whl {t : Da} {b : List Stm} (h1 : GoodB hs iv av d b) : GoodB hs iv av (d + 1) [.whl t b none] := by
  refine ⟨⟨by simp, fun s hs => by rw [List.mem_singleton.mp hs]; exact ⟨rfl, h1.1⟩⟩, fun s hs' => ?_⟩
  rw [flat, List.flatMap_cons, List.flatMap_nil, List.append_nil] at hs'
  rcases List.mem_cons.mp hs' with rfl | hs'
  · trivial
  · exact h1.2 s hs'
end
structure GE (K : PySem.W.Frag) (st l ow hA : Addr) (ns : List Int) (own : List Str) (hs : List Hd8) (H : Hp) : Prop where
  S : StOk st l ns H
  oh : H ow = some (.lst (own.map V.str))
  ol : own.length = 6
  hd : ∃ hv, H hA = some (.lst hv) ∧ HdL K H hv hs
  ok : ∀ h, h ∈ hs → HdOk h
  ne : 0 < hs.length ∧ hs.length ≤ 6
  owst : ow ≠ st
  hAst : hA ≠ st
  ns1 : ns.length ≤ 1000
theorem GE.step {K : PySem.W.Frag} {st l ow hA : Addr} {ns : List Int} {own : List Str} {hs : List Hd8} {H H' : Hp} (g : GE K st l ow hA ns own hs H) (x : Exs st H H') (S' : StOk st l ns H') : GE K st l ow hA ns own hs H' := by
  obtain ⟨S, h1, h2, ⟨hv, h3, h4⟩, h5, h6, h7, h8, h9⟩ := g
  obtain ⟨_, _, _, _, hst⟩ := id S
  exact ⟨S', x _ _ h7 h1, h2, ⟨hv, x _ _ h8 h3, h4.exs h5 hst x (.inl (by simp))⟩, h5, h6, h7, h8, h9⟩
theorem GE.ex {K : PySem.W.Frag} {st l ow hA : Addr} {ns : List Int} {own : List Str} {hs : List Hd8} {H H' : Hp} (g : GE K st l ow hA ns own hs H) (e : Ex H H') : GE K st l ow hA ns own hs H' := g.step (Ex.s e) (g.S.ex e)
def ivOf (own : List Str) : List Str := own.take 3
def avOf (own : List Str) : List Str := own.drop 3
def spSo (K : PySem.W.Frag) : Nat → Sp
  | 0 => fun _ _ _ _ => False
  | n + 1 => fun vs H Q _ => ∃ (st l ow hA : Addr) (ns : List Int) (own : List Str) (hs : List Hd8), vs = [.ref st, .ref ow, .ref hA, .int (n : Int)] ∧ n ≤ 3 ∧ GE K st l ow hA ns own hs H ∧
    ∀ v b H', Rep K H' v (.t (das b)) → GoodB hs (ivOf own) (avOf own) (n + 1) b → Exs st H H' → StOk st l ns H' → Q v H'
def spOn (K : PySem.W.Frag) (n : Nat) : Sp := fun vs H Q _ => ∃ (st l ow hA : Addr) (ns : List Int) (own : List Str) (hs : List Hd8), vs = [.ref st, .ref ow, .ref hA, .int (n : Int)] ∧ n ≤ 3 ∧ GE K st l ow hA ns own hs H ∧
    ∀ v s H', Rep K H' v s.da → GoodB hs (ivOf own) (avOf own) (n + 1) [s] → Exs st H H' → StOk st l ns H' → Q v H'
mutual
theorem rep_tups {K : PySem.W.Frag} {H H' : Hp} (e : ∀ a xs, H a = some (.tup xs) → H' a = some (.tup xs)) : ∀ {v : V} {d : Da}, Rep K H v d → Rep K H' v d
  | _, .i _, h => h
  | _, .s _, h => h
  | _, .t l, h => by
    unfold Rep at h ⊢
    obtain ⟨a, vs, e1, e2, e3⟩ := h
    exact ⟨a, vs, e1, e _ _ e2, reps_tups e e3⟩
theorem reps_tups {K : PySem.W.Frag} {H H' : Hp} (e : ∀ a xs, H a = some (.tup xs) → H' a = some (.tup xs)) : ∀ {vs : List V} {l : List Da}, Reps K H vs l → Reps K H' vs l
  | _, [], h => h
  | _, d :: l, h => by
    unfold Reps at h ⊢
    obtain ⟨v, r, e1, e2, e3⟩ := h
    exact ⟨v, r, e1, rep_tups e e2, reps_tups e e3⟩
end
theorem stms_of {K : PySem.W.Frag} {H : Hp} {p : Stm → Prop} : ∀ out : List V, (∀ v, v ∈ out → ∃ s, Rep K H v s.da ∧ p s) → ∃ b : List Stm, b.length = out.length ∧ Reps K H out (b.map Stm.da) ∧ ∀ s, s ∈ b → p s
  | [], _ => ⟨[], rfl, Reps.nil_, fun s hs => by cases hs⟩
  | v :: out, h => by
    obtain ⟨s, h1, h2⟩ := h v List.mem_cons_self
    obtain ⟨b, h3, h4, h5⟩ := stms_of out fun u hu => h u (List.mem_cons_of_mem _ hu)
    exact ⟨s :: b, by rw [List.length_cons, List.length_cons, h3], Reps.cons_ h1 h4, fun s' hs' => by
      rcases List.mem_cons.mp hs' with rfl | hs'
      · exact h2
      · exact h5 s' hs'⟩
section
variable {P : Program} {w : World} {K : PySem.W.Frag} {mg : Str → Option Value} {base : Heap}
theorem sc_law_some_statements : FnScope ["state", "own", "heads", "depth", "many", "k"] ["state", "own", "heads", "depth"] (defScope (topS 26)) := ⟨rfl, rfl, rfl, by decide +kernel, rfl, by decide +kernel, by decide +kernel⟩
theorem ok_law_some_statements {d : Nat} {f : Addr} {fd : FuncData} (F : FnP K "_law_some_statements" "_law_some_statements" (topS 26) f fd) (T : Bt mg) (h_law_draw : Has P w K mg base "_law_draw" ["state", "most"] 1 spDraw) (h_law_one_statement : Has P w K mg base "_law_one_statement" ["state", "own", "heads", "depth"] (3 + 2 * d) (spOn K d)) : FnOk P w K mg base CX0 (3 + 2 * d + 1) f fd ["state", "own", "heads", "depth"] (spSo K (d + 1)) := by
  refine F.ok sc_law_some_statements (fun vs H Q E h => ?_) (fun cdv A outer s H vs Q E hr h => ?_)
  · obtain ⟨st, l, ow, hA, ns, own, hs, rfl, _⟩ := h
    rfl
  · obtain ⟨st, l, ow, hA, ns, own, hs, rfl, hd, G, q⟩ := h
    refine ⟨_, PSs.nox
      (pss_cons (ps_set (i := 4) sc_law_some_statements.nd rfl (Or.inl rfl) (pe_callH h_law_draw (hr.mono (by omega)) (by rfl) (pa_cons (pv 0) (pa_cons pe_int pa_nil))))
      (pss_cons (ps_if (pt_cmpR op_eq (pv 3) pe_int (nomark _)) (pss_one (ps_set (i := 4) sc_law_some_statements.nd rfl (Or.inl rfl) (pe_op op_add (pv 4) (pe_callH h_law_draw (hr.mono (by omega)) (by rfl) (pa_cons (pv 0) (pa_cons pe_int pa_nil)))))) pss_nil)
      (pss_one (ps_ret (pe_callTy (call_tuple_ofK K rfl) (by rfl) T.m_tuple (by decide +kernel) (pa_cons (pe_lc (own := [("k", 5)])  rfl sc_law_some_statements.nd  (pi_range1 (by rfl) T.m_range (pa_cons (pv 4) pa_nil)) (blkOk_by (own := [("k", 5)]) (N := ["state", "own", "heads", "depth", "many", "k"]) (sc := defScope (topS 26)) (by decide +kernel)) (fun _ _ _ _ _ => (pg_name (i := 5) sc_law_some_statements.nd rfl (Or.inl rfl))) (fun _ _ _ _ _ => pts_nil) (fun _ _ _ _ _ => (pe_callH h_law_one_statement (hr.mono (by omega)) (by rfl) (pa_cons (pv 0) (pa_cons (pv 1) (pa_cons (pv 2) (pa_cons (pv 3) pa_nil))))))) pa_nil)))))), ?_⟩
    have fin : ∀ (r : Nat) H1, r ≤ 4 → Exs st H H1 → StOk st l ns H1 → tRet (tCB (fun xs H Q => ∃ p ys, xs = [V.ref p] ∧ ((SqL K H p ys ∧ ∀ l, H l = none → Q (V.ref l) (upd H l (.tup ys))) ∨ (SqT K H p ys ∧ Q (V.ref p) H))) (tCons (tLc (iRng1 (tCons (tVar 4) tNil)) (gName 5) tYes (tCall (spOn K d) [] E0 (tCons (tVar 0) (tCons (tVar 1) (tCons (tVar 2) (tCons (tVar 3) tNil))))) [5]) tNil))
        { nx := fun x H' => Q V.non H', rt := Q } [some (.ref st), some (.ref ow), some (.ref hA), some (.int (d : Int)), some (.int (r : Int)), none] H1 := fun r H1 hr4 x1 S1 => by
      refine s_retM (m_cb1 (m_lcR (n := r) (fun v H => ∃ s, Rep K H v s.da ∧ GoodB hs (ivOf own) (avOf own) (d + 1) [s]) (fun v H H' e h => by obtain ⟨s, h1, h2⟩ := h; exact ⟨s, rep_tups e h1, h2⟩) (ea_cons (ev_var rfl) ea_nil) (by omega) S1 (fun _ => rfl) (fun i Ha R hi xa Sa r => ?_) fun Dl out H2 x2 S2 hne hD hol hP => ?_))
      · refine m_call (ea_cons (ev_var rfl) (ea_cons (ev_var rfl) (ea_cons (ev_var rfl) (ea_cons (ev_var rfl) ea_nil)))) fun H3 e3 => ?_
        exact ⟨st, l, ow, hA, ns, own, hs, rfl, hd, (G.step (x1.trans xa) Sa).ex e3, fun v s H' hv hg x' S' => r v H' ((Ex.s e3).trans x') S' ⟨s, hv, hg⟩⟩
      · obtain ⟨b, hb, hr2, hbg⟩ := stms_of out hP
        refine ⟨Dl, out, rfl, .inl ⟨sq_of hD, fun a ha => q _ b _ (rep_t upd_same (by rw [das_map]; exact hr2.ex (Ex.new ha))) (good_cat (by omega) hbg) ((x1.trans x2).trans (Ex.s (Ex.new ha))) (S2.ex (Ex.new ha))⟩⟩
    refine q_asgM (m_draw rfl (by decide) (by decide) G.ns1 G.S fun r H1 hr1 x1 S1 => ?_)
    refine q_when (b := decide (V.int (d : Int) = V.int 3)) (et_test (ev_op (ev_var rfl) ev_c (rv_eq rfl))) (fun _ H2 e2 => ?_) (fun _ H2 e2 => fin r H2 (by omega) (x1.trans (Ex.s e2)) (S1.ex e2))
    refine s_asgM (m_op (ev_var rfl) fun H3 e3 => m_draw rfl (by decide) (by decide) G.ns1 (S1.ex (e2.trans e3)) fun t H4 ht x4 S4 => rv_I0 H4 (Ex.refl _) _ fun H5 e5 => ?_)
    have := fin (r + t) H5 (by omega) (((x1.trans (Ex.s (e2.trans e3))).trans x4).trans (Ex.s e5)) (S4.ex e5)
    rw [Int.natCast_add] at this
    exact this
end
end K88

set_option maxHeartbeats 4000000
namespace K88
open PySem L2 Evl
/-! ### tuples with draws inside -/
def EvD (st l : Addr) (ns : List Int) (te : TE) (σ : L2.St) (H : Hp) (P : V → Hp → Prop) : Prop := ∀ Q : VK, (∀ v H', Exs st H H' → StOk st l ns H' → P v H' → Q v H') → te σ H Q
def EvDA (st l : Addr) (ns : List Int) (ta : TA) (σ : L2.St) (H : Hp) (P : List V → Hp → Prop) : Prop := ∀ Q : List V → Hp → Prop, (∀ v H', Exs st H H' → StOk st l ns H' → P v H' → Q v H') → ta σ H Q
def RP (K : PySem.W.Frag) (p : Da → Prop) : V → Hp → Prop := fun v H => ∃ d, Rep K H v d ∧ p d
def RPs (K : PySem.W.Frag) (p : List Da → Prop) : List V → Hp → Prop := fun vs H => ∃ l, Reps K H vs l ∧ p l
section
variable {K : PySem.W.Frag} {st l : Addr} {ns : List Int} {te : TE} {ta : TA} {σ : L2.St} {H : Hp}
theorem edr_p {d : Da} (S : StOk st l ns H) (h : EvP te σ H (fun v H => Rep K H v d)) : EvD st l ns te σ H (RP K fun e => e = d) := fun Q q => h H (Ex.refl _) _ fun v H1 e r => q v H1 (Ex.s e) (S.ex e) ⟨d, r, rfl⟩
theorem edr_nil (S : StOk st l ns H) : EvDA st l ns tNil σ H (RPs K fun e => e = []) := fun Q q => q [] H (Exs.refl _) S ⟨[], Reps.nil_, rfl⟩
theorem edr_cons {p : Da → Prop} {pr : List Da → Prop} (h : EvD st l ns te σ H (RP K p)) (hr : ∀ H', Exs st H H' → StOk st l ns H' → EvDA st l ns ta σ H' (RPs K pr)) : EvDA st l ns (tCons te ta) σ H (RPs K fun e => ∃ d r, e = d :: r ∧ p d ∧ pr r) := fun Q q =>
  h _ fun v H1 x1 S1 ⟨d, r1, p1⟩ => hr H1 x1 S1 _ fun vs H2 x2 S2 ⟨r, r2, p2⟩ => q _ H2 (x1.trans x2) S2 ⟨d :: r, Reps.cons_ (S1.rep x2 r1) r2, d, r, rfl, p1, p2⟩
theorem edr_tup {pr : List Da → Prop} (h : EvDA st l ns ta σ H (RPs K pr)) (hz : ∀ l, pr l → l.length ≤ 100000) : EvD st l ns (tTup ta) σ H (RP K fun e => ∃ r, e = .t r ∧ pr r) := fun Q q =>
  h _ fun vs H1 x1 S1 ⟨r, r1, p1⟩ => ⟨sz_of (by rw [r1.len]; exact hz r p1), fun p hp => q _ _ (x1.trans (Ex.s (Ex.new hp))) (S1.ex (Ex.new hp)) ⟨.t r, rep_t upd_same (reps_new hp r1), r, rfl, p1⟩⟩
theorem edr_draw {most : Int} (h0 : σ[0]? = some (some (.ref st))) (m0 : 0 < most) (m1 : most ≤ 1000) (hl : ns.length ≤ 1000) (S : StOk st l ns H) : EvD st l ns (tCall spDraw [] E0 (tCons (tVar 0) (tCons (tC (.int most)) tNil))) σ H (RP K fun e => ∃ n : Int, e = .i n) := fun Q q =>
  m_draw h0 m0 m1 hl S fun r H' _ x S' => q _ H' x S' ⟨.i r, by unfold Rep; rfl, _, rfl⟩
/-- one of some texts -/
theorem m_oneS {tl : TE} {xs : List Str} {Q : VK} (h0 : σ[0]? = some (some (.ref st))) (h : EvL tl σ H (xs.map V.str)) (hx : 0 < xs.length) (hx2 : xs.length ≤ 1000) (hl : ns.length ≤ 1000) (S : StOk st l ns H)
    (q : ∀ z H', z ∈ xs → Exs st H H' → StOk st l ns H' → Q (.str z) H') : tCall spOne [] E0 (tCons (tVar 0) (tCons tl tNil)) σ H Q := by
  refine ⟨_, h0, h H (Ex.refl _) _ fun p H1 hp e hL => ?_⟩
  refine ⟨st, l, p, ns, xs.map V.str, rfl, hL, (S.nst hp).1, by rw [List.length_map]; exact hx, by rw [List.length_map]; exact hx2, hl, S.ex e, fun v H' hv x S' => ?_⟩
  obtain ⟨z, hz, rfl⟩ := List.mem_map.mp hv
  exact q z H' hz ((Ex.s e).trans x) S'
theorem m_shuf {tl : TE} {xs : List Str} {Q : VK} (h0 : σ[0]? = some (some (.ref st))) (h : EvL tl σ H (xs.map V.str)) (hx2 : xs.length ≤ 100) (hl : ns.length ≤ 1000) (S : StOk st l ns H)
    (q : ∀ (p : Addr) (ys : List Str) (H' : Hp), ys.Perm xs → H p = none → Exs st H H' → StOk st l ns H' → H' p = some (.lst (ys.map V.str)) → Q (.ref p) H') : tCall spShuf [] E0 (tCons (tVar 0) (tCons tl tNil)) σ H Q := by
  refine ⟨_, h0, h H (Ex.refl _) _ fun p H1 hp e hL => ?_⟩
  exact ⟨st, l, p, ns, xs, rfl, hL, (S.nst hp).1, hx2, hl, S.ex e, fun p2 ys H' hy hp2 x S' h2 => q p2 ys H' hy (fresh_back e hp2) ((Ex.s e).trans x) S' h2⟩
end
theorem reps_rep {K : PySem.W.Frag} {H : Hp} {u : V} {dd : Da} (h : Rep K H u dd) : ∀ k : Nat, Reps K H (List.replicate k u) (List.replicate k dd)
  | 0 => Reps.nil_
  | k + 1 => Reps.cons_ h (reps_rep h k)
theorem er_rep {K : PySem.W.Frag} {σ : L2.St} {H : Hp} {ta tb : TE} {dd : Da} {k : Nat} (ha : EvP ta σ H (fun v H => Rep K H v (.t [dd]))) (hb : Ev tb σ H (.int (k : Int))) (hk : k ≤ 1000) : EvP (tOp (rRepA K) ta tb) σ H (fun v H => Rep K H v (.t (List.replicate k dd))) := fun H1 e Q q =>
  ha H1 e _ fun v H2 e2 r => hb H2 (e.trans e2) _ fun H3 e3 => by
    unfold Rep at r
    obtain ⟨p, vs, rfl, hp, rs⟩ := r
    obtain ⟨u, rfl, ru⟩ := reps_one rs
    refine ⟨p, k, u, rfl, rfl, st_of (e3 _ _ hp), hk, fun h1 => q _ H3 (e2.trans e3) ?_, fun _ r hr => q _ _ ((e2.trans e3).trans (Ex.new hr)) (rep_t upd_same (reps_rep (ru.ex (e3.trans (Ex.new hr))) k))⟩
    subst h1
    exact rep_t (e3 _ _ hp) (Reps.cons_ (ru.ex e3) Reps.nil_)
theorem exs_base8 {st a : Addr} {H0 H H1 : Hp} (h0 : H0 a = none) (x : Exs st H0 H) (y : Exs a H H1) : Exs st H0 H1 := fun b o hb ho => y b o (fun z => by rw [z, h0] at ho; cases ho) (x b o hb ho)
theorem fresh_exs {st l : Addr} {ns : List Int} {H H' : Hp} {p : Addr} (x : Exs st H H') (S' : StOk st l ns H') (hp : H' p = none) : H p = none := by
  cases hh : H p with
  | none => rfl
  | some o =>
    exfalso
    by_cases e : p = st
    · obtain ⟨_, _, _, _, h2⟩ := S'
      rw [e, h2] at hp
      cases hp
    · rw [x _ _ e hh] at hp
      cases hp
section
variable {P : Program} {w : World} {K : PySem.W.Frag} {mg : Str → Option Value} {base : Heap}
theorem sc_law_one_statement : FnScope ["state", "own", "heads", "depth", "pick", "n", "i", "j", "a", "b", "w", "array", "x", "callee", "passed", "args", "kind", "targets", "test", "block"] ["state", "own", "heads", "depth"] (defScope (topS 27)) := ⟨rfl, rfl, rfl, by decide +kernel, rfl, by decide +kernel, by decide +kernel⟩
theorem ok_law_one_statement {d : Nat} {f : Addr} {fd : FuncData} (F : FnP K "_law_one_statement" "_law_one_statement" (topS 27) f fd) (T : Bt mg) (h_law_draw : Has P w K mg base "_law_draw" ["state", "most"] 1 spDraw) (h_law_one_of : Has P w K mg base "_law_one_of" ["state", "items"] 2 spOne) (h_law_shuffled : Has P w K mg base "_law_shuffled" ["state", "items"] 2 spShuf) (h_law_some_statements : Has P w K mg base "_law_some_statements" ["state", "own", "heads", "depth"] (2 + 2 * d) (spSo K d)) : FnOk P w K mg base CX0 (2 + 2 * d + 1) f fd ["state", "own", "heads", "depth"] (spOn K d) := by
  refine F.ok sc_law_one_statement (fun vs H Q E h => ?_) (fun cdv A outer s H vs Q E hr h => ?_)
  · obtain ⟨st, l, ow, hA, ns, own, hs, rfl, _⟩ := h
    rfl
  · obtain ⟨st, l, ow, hA, ns, own, hs, rfl, hd, G, q⟩ := h
    refine ⟨_, PSs.nox
      (pss_cons (ps_set (i := 4) sc_law_one_statement.nd rfl (Or.inl rfl) (pe_callH h_law_draw (hr.mono (by omega)) (by rfl) (pa_cons (pv 0) (pa_cons pe_int pa_nil))))
      (pss_cons (ps_asg (pv 1) (pg_unlK K rfl (n := 6) rfl (pgs_cons (pg_name (i := 5) sc_law_one_statement.nd rfl (Or.inl rfl)) (pgs_cons (pg_name (i := 6) sc_law_one_statement.nd rfl (Or.inl rfl)) (pgs_cons (pg_name (i := 7) sc_law_one_statement.nd rfl (Or.inl rfl)) (pgs_cons (pg_name (i := 8) sc_law_one_statement.nd rfl (Or.inl rfl)) (pgs_cons (pg_name (i := 9) sc_law_one_statement.nd rfl (Or.inl rfl)) (pgs_cons (pg_name (i := 10) sc_law_one_statement.nd rfl (Or.inl rfl)) pgs_nil))))))))
      (pss_cons (ps_set (i := 11) sc_law_one_statement.nd rfl (Or.inl rfl) (pe_callH h_law_one_of (hr.mono (by omega)) (by rfl) (pa_cons (pv 0) (pa_cons (pe_lst (pa_cons (pv 8) (pa_cons (pv 9) (pa_cons (pv 10) pa_nil)))) pa_nil))))
      (pss_cons (ps_set (i := 12) sc_law_one_statement.nd rfl (Or.inl rfl) (pe_callH h_law_one_of (hr.mono (by omega)) (by rfl) (pa_cons (pv 0) (pa_cons (pe_lst (pa_cons (pv 5) (pa_cons (pv 6) (pa_cons (pv 7) (pa_cons (pv 7) pa_nil))))) pa_nil))))
      (pss_cons (ps_if (pt_cmpR op_lt (pv 4) pe_int (nomark _)) (pss_one (ps_ret (pe_tup (pa_cons pe_str (pa_cons (pe_tup (pa_cons (pe_tup (pa_cons (pv 12) (pa_cons (pe_tup (pa_cons pe_str (pa_cons (pe_tup (pa_cons pe_str (pa_cons (pv 6) pa_nil))) (pa_cons (pe_tup (pa_cons pe_str (pa_cons (pe_callH h_law_draw (hr.mono (by omega)) (by rfl) (pa_cons (pv 0) (pa_cons pe_int pa_nil))) pa_nil))) pa_nil)))) pa_nil))) pa_nil)) pa_nil))))) pss_nil)
      (pss_cons (ps_if (pt_cmpR op_eq (pv 4) pe_int (nomark _)) (pss_one (ps_ret (pe_tup (pa_cons pe_str (pa_cons (pe_tup (pa_cons pe_str (pa_cons (pv 5) pa_nil))) (pa_cons (pv 11) pa_nil)))))) pss_nil)
      (pss_cons (ps_if (pt_cmpR op_eq (pv 4) pe_int (nomark _)) (pss_one (ps_ret (pe_tup (pa_cons pe_str (pa_cons (pv 11) (pa_cons (pe_tup (pa_cons pe_str (pa_cons pe_int pa_nil))) (pa_cons (pe_tup (pa_cons pe_str (pa_cons (pv 7) pa_nil))) pa_nil))))))) pss_nil)
      (pss_cons (ps_if (pt_cmpR op_eq (pv 4) pe_int (nomark _)) (pss_one (ps_ret (pe_tup (pa_cons pe_str (pa_cons (pv 12) (pa_cons (pv 11) pa_nil)))))) pss_nil)
      (pss_cons (ps_if (pt_cmpR op_eq (pv 4) pe_int (nomark _)) (pss_one (ps_ret (pe_tup (pa_cons pe_str pa_nil)))) pss_nil)
      (pss_cons (ps_if (PW.pt (pw_or (pt_cmpR op_lt (pv 4) pe_int (nomark _)) (pw_or1 (pt_cmpR op_eq (pv 3) pe_int (nomark _))))) (pss_cons (ps_set (i := 13) sc_law_one_statement.nd rfl (Or.inl rfl) (pe_callH h_law_one_of (hr.mono (by omega)) (by rfl) (pa_cons (pv 0) (pa_cons (pv 2) pa_nil))))
      (pss_cons (ps_set (i := 14) sc_law_one_statement.nd rfl (Or.inl rfl) (pe_callH h_law_shuffled (hr.mono (by omega)) (by rfl) (pa_cons (pv 0) (pa_cons (pe_lst (pa_cons (pv 8) (pa_cons (pv 9) (pa_cons (pv 10) pa_nil)))) pa_nil))))
      (pss_cons (ps_set (i := 15) sc_law_one_statement.nd rfl (Or.inl rfl) (pe_lst pa_nil))
      (pss_cons (ps_for PassesOwn.never rfl (pi_listK K rfl (pe_ix (ix_tupK K rfl) (pv 13) pe_int (fun _ _ => rfl))) (pg_name (i := 16) sc_law_one_statement.nd rfl (Or.inl rfl)) (pss_one (ps_if (pt_cmpR op_eq (pv 16) pe_str (nomark _)) (pss_one (ps_expr (pe_bm PySem.F.plainAttrs_list PySem.F.slot_list_append PySem.F.type_list_append mt_append (pv 15) (pa_cons (pe_tup (pa_cons pe_str (pa_cons (pe_bm0 PySem.F.plainAttrs_list PySem.F.slot_list_pop PySem.F.type_list_pop mt_pop (pv 14)) pa_nil))) pa_nil)))) (pss_one (ps_expr (pe_bm PySem.F.plainAttrs_list PySem.F.slot_list_append PySem.F.type_list_append mt_append (pv 15) (pa_cons (pe_tup (pa_cons pe_str (pa_cons (pe_tup (pa_cons pe_str (pa_cons (pv 5) pa_nil))) (pa_cons (pe_tup (pa_cons pe_str (pa_cons pe_int pa_nil))) pa_nil)))) pa_nil)))))))
      (pss_cons (ps_set (i := 17) sc_law_one_statement.nd rfl (Or.inl rfl) (pe_op (op_catAK K rfl) (pe_op (op_repAK K rfl) (pe_tup (pa_cons (pe_tup (pa_cons (pv 12) pa_nil)) pa_nil)) (pe_callB (call_lenK K rfl) (by rfl) T.m_len (by decide +kernel) (pa_cons (pe_ix (ix_tupK K rfl) (pv 13) pe_int (fun _ _ => rfl)) pa_nil))) (pe_tup (pa_cons (pe_tup pa_nil) pa_nil))))
      (pss_one (ps_ret (pe_tup (pa_cons pe_str (pa_cons (pe_ix (ix_tupK K rfl) (pv 13) pe_int (fun _ _ => rfl)) (pa_cons (pe_callTy (call_tuple_ofK K rfl) (by rfl) T.m_tuple (by decide +kernel) (pa_cons (pv 15) pa_nil)) (pa_cons (pe_ix (ix_tupK K rfl) (pv 17) (pe_callH h_law_draw (hr.mono (by omega)) (by rfl) (pa_cons (pv 0) (pa_cons (pe_callB (call_lenK K rfl) (by rfl) T.m_len (by decide +kernel) (pa_cons (pv 17) pa_nil)) pa_nil))) (fun _ _ => rfl)) pa_nil)))))))))))) pss_nil)
      (pss_cons (ps_set (i := 18) sc_law_one_statement.nd rfl (Or.inl rfl) (pe_tup (pa_cons pe_str (pa_cons (pe_tup (pa_cons pe_str (pa_cons (pv 6) pa_nil))) (pa_cons (pe_tup (pa_cons pe_str (pa_cons (pv 5) pa_nil))) pa_nil)))))
      (pss_cons (ps_set (i := 19) sc_law_one_statement.nd rfl (Or.inl rfl) (pe_callH h_law_some_statements (hr.mono (by omega)) (by rfl) (pa_cons (pv 0) (pa_cons (pv 1) (pa_cons (pv 2) (pa_cons (pe_op op_sub (pv 3) pe_int) pa_nil))))))
      (pss_cons (ps_if (pt_cmpR op_eq (pv 4) pe_int (nomark _)) (pss_one (ps_ret (pe_tup (pa_cons pe_str (pa_cons (pv 18) (pa_cons (pv 19) (pa_cons (pe_callH h_law_some_statements (hr.mono (by omega)) (by rfl) (pa_cons (pv 0) (pa_cons (pv 1) (pa_cons (pv 2) (pa_cons (pe_op op_sub (pv 3) pe_int) pa_nil))))) pa_nil))))))) pss_nil)
      (pss_one (ps_ret (pe_tup (pa_cons pe_str (pa_cons (pv 18) (pa_cons (pv 19) pa_nil))))))))))))))))))), ?_⟩
    obtain ⟨n, i, j, a, b, w, rfl⟩ : ∃ n i j a b w, own = [n, i, j, a, b, w] := by
      have := G.ol
      match own, this with
      | [n, i, j, a, b, w], _ => exact ⟨n, i, j, a, b, w, rfl⟩
    have hn := G.ns1
    have hiv : ivOf [n, i, j, a, b, w] = [n, i, j] := rfl
    have hav : avOf [n, i, j, a, b, w] = [a, b, w] := rfl
    rw [hiv, hav] at q
    -- the draws
    refine q_asgM (m_draw rfl (by decide) (by decide) hn G.S fun r H1 hr1 x1 S1 => ?_)
    have G1 := G.step x1 S1
    refine ⟨_, rfl, ow, _, rfl, sq_of G1.oh, rfl, _, _, rfl, _, _, rfl, _, _, rfl, _, _, rfl, _, _, rfl, _, _, rfl, rfl, ?_⟩
    show tSeq _ _ _ [some (.ref st), some (.ref ow), some (.ref hA), some (.int (d : Int)), some (.int (r : Int)), some (.str n), some (.str i), some (.str j), some (.str a), some (.str b), some (.str w), none, none, none, none, none, none, none, none, none] H1
    refine q_asgM (m_oneS (xs := [a, b, w]) rfl (el_lst (ea_cons (ev_var rfl) (ea_cons (ev_var rfl) (ea_cons (ev_var rfl) ea_nil))) (by simp)) (by simp) (by simp) hn S1 fun ar H2 har x2 S2 => ?_)
    refine q_asgM (m_oneS (xs := [n, i, j, j]) rfl (el_lst (ea_cons (ev_var rfl) (ea_cons (ev_var rfl) (ea_cons (ev_var rfl) (ea_cons (ev_var rfl) ea_nil)))) (by simp)) (by simp) (by simp) hn S2 fun xx H3 hxx x3 S3 => ?_)
    have hxx' : xx ∈ [n, i, j] := by simpa using hxx
    have x03 := (x1.trans x2).trans x3
    show tSeq _ _ _ [some (.ref st), some (.ref ow), some (.ref hA), some (.int (d : Int)), some (.int (r : Int)), some (.str n), some (.str i), some (.str j), some (.str a), some (.str b), some (.str w), some (.str ar), some (.str xx), none, none, none, none, none, none, none] H3
    have S0 : StOk st l ns H := G.S
    clear S1 S2 G1 x1 x2 x3 hr1
    -- what is told back
    have ret : ∀ {s : Stm} {te : TE} {σ : L2.St} {H1 : Hp} {D : Ends}, D.rt = Q → Exs st H H1 → StOk st l ns H1 → EvP te σ H1 (fun v H => Rep K H v s.da) → GoodB hs [n, i, j] [a, b, w] (d + 1) [s] → tRet te D σ H1 := fun {s te σ H1 D} hD x S h g => by
      show te σ H1 D.rt
      rw [hD]
      exact h H1 (Ex.refl _) _ fun v H2 e2 rv => q v s H2 rv g (x.trans (Ex.s e2)) (S.ex e2)
    refine q_when (et_test (ev_op (ev_var rfl) ev_c rv_I0)) (fun _ H4 e4 => ?_) (fun hB1 H4 e4 => ?_)
    · -- set
      have S4 := S3.ex e4
      refine s_retM (edr_tup (K := K) (edr_cons (edr_p (d := .s "set") S4 (ep_Rs ev_c)) fun H5 x5 S5 => edr_cons (edr_tup (edr_cons (edr_tup (edr_cons (edr_p (d := .s xx) S5 (ep_Rs (ev_var rfl))) fun H6 x6 S6 => edr_cons (edr_tup (edr_cons (edr_p (d := .s "plus") S6 (ep_Rs ev_c)) fun H7 x7 S7 => edr_cons (edr_p (d := .t [.s "name", .s i]) S7 (er_tup (er_cons (ep_Rs ev_c) (er_cons (ep_Rs (ev_var rfl)) er_nil)) (by simp))) fun H8 x8 S8 => edr_cons (edr_tup (edr_cons (edr_p (d := .s "number") S8 (ep_Rs ev_c)) fun H9 x9 S9 => edr_cons (edr_draw rfl (by decide) (by decide) hn S9) fun H10 x10 S10 => edr_nil S10) (fun l ⟨_, _, h1, _, _, _, h2, _, h3⟩ => by subst h1 h2 h3; simp)) fun H11 x11 S11 => edr_nil S11) (fun l ⟨_, _, h1, _, _, _, h2, _, _, _, h3, _, h4⟩ => by subst h1 h2 h3 h4; simp)) fun H12 x12 S12 => edr_nil S12) (fun l ⟨_, _, h1, _, _, _, h2, _, h3⟩ => by subst h1 h2 h3; simp)) fun H13 x13 S13 => edr_nil S13) (fun l ⟨_, _, h1, _, h2⟩ => by subst h1 h2; simp)) fun H14 x14 S14 => edr_nil S14) (fun l ⟨_, _, h1, _, _, _, h2, _, h3⟩ => by subst h1 h2 h3; simp) _ fun v H5 x5 S5 ⟨dd, rv, hdd⟩ => ?_)
      obtain ⟨r1, rfl, d1, r2, rfl, rfl, d2, r3, rfl, ⟨r4, rfl, d3, r5, rfl, ⟨r6, rfl, d4, r7, rfl, rfl, d5, r8, rfl, _, rfl⟩, rfl⟩, rfl⟩ := hdd
      exact q v (.set xx d5) H5 rv (good_set hxx') ((x03.trans (Ex.s e4)).trans x5) S5
    refine q_when (et_test (ev_op (ev_var rfl) ev_c (rv_eq rfl))) (fun _ H5 e5 => ?_) (fun hB2 H5 e5 => ?_)
    · exact ret (s := .push (.t [.s "name", .s n]) ar) rfl (x03.trans (Ex.s (e4.trans e5))) (S3.ex (e4.trans e5)) (er_tup (er_cons (ep_Rs ev_c) (er_cons (er_tup (er_cons (ep_Rs ev_c) (er_cons (ep_Rs (ev_var rfl)) er_nil)) (by simp)) (er_cons (ep_Rs (ev_var rfl)) er_nil))) (by simp)) (good_push har)
    have e45 := e4.trans e5
    refine q_when (et_test (ev_op (ev_var rfl) ev_c (rv_eq rfl))) (fun _ H6 e6 => ?_) (fun hB3 H6 e6 => ?_)
    · exact ret (s := .store ar (.t [.s "number", .i 0]) (.t [.s "name", .s j])) rfl (x03.trans (Ex.s (e45.trans e6))) (S3.ex (e45.trans e6)) (er_tup (er_cons (ep_Rs ev_c) (er_cons (ep_Rs (ev_var rfl)) (er_cons (er_tup (er_cons (ep_Rs ev_c) (er_cons (ep_Ri ev_c) er_nil)) (by simp)) (er_cons (er_tup (er_cons (ep_Rs ev_c) (er_cons (ep_Rs (ev_var rfl)) er_nil)) (by simp)) er_nil)))) (by simp)) good_store
    have e46 := e45.trans e6
    refine q_when (et_test (ev_op (ev_var rfl) ev_c (rv_eq rfl))) (fun _ H7 e7 => ?_) (fun hB4 H7 e7 => ?_)
    · exact ret (s := .pop xx ar) rfl (x03.trans (Ex.s (e46.trans e7))) (S3.ex (e46.trans e7)) (er_tup (er_cons (ep_Rs ev_c) (er_cons (ep_Rs (ev_var rfl)) (er_cons (ep_Rs (ev_var rfl)) er_nil))) (by simp)) (good_pop hxx' har)
    have e47 := e46.trans e7
    refine q_when (et_test (ev_op (ev_var rfl) ev_c (rv_eq rfl))) (fun _ H8 e8 => ?_) (fun hB5 H8 e8 => ?_)
    · exact ret (s := .pause none) rfl (x03.trans (Ex.s (e47.trans e8))) (S3.ex (e47.trans e8)) (er_tup (er_cons (ep_Rs ev_c) er_nil) (by simp [pts])) good_pause
    have e48 := e47.trans e8
    have S8 := S3.ex e48
    have x08 := x03.trans (Ex.s e48)
    have G8 := G.step x08 S8
    refine q_when (et_or (et_test (ev_op (ev_var rfl) ev_c rv_I0)) fun _ => et_test (ev_op (ev_var rfl) ev_c (rv_eq rfl))) (fun _ H9 e9 => ?_) (fun hB6 H9 e9 => ?_)
    · -- call
      have S9 := S8.ex e9
      have G9 := G8.ex e9
      have x09 := x08.trans (Ex.s e9)
      obtain ⟨hv, hAH, hL⟩ := id G9.hd
      have hvl := hL.1
      have hne := G9.ne
      refine q_asgM (m_call (ea_cons (ev_var rfl) (ea_cons (ev_var rfl) ea_nil)) fun H10 e10 => ⟨st, l, hA, ns, hv, rfl, e10 _ _ hAH, G9.hAst, by omega, by omega, hn, S9.ex e10, fun cv H11 hcv x11 S11 => ?_⟩)
      have G11 := (G9.ex e10).step x11 S11
      have x011 := (x09.trans (Ex.s e10)).trans x11
      obtain ⟨k0, hk0⟩ := List.getElem?_of_mem hcv
      have hk0l : k0 < hs.length := by have := (List.getElem?_eq_some_iff.mp hk0).1; omega
      obtain ⟨h, hh⟩ : ∃ h, hs[k0]? = some h := ⟨_, List.getElem?_eq_getElem hk0l⟩
      have hhm := List.mem_of_getElem? hh
      have hok := G11.ok h hhm
      have hV : HdV K H11 cv h := by
        obtain ⟨hv', h1, h2⟩ := G11.hd
        rw [x11 _ _ G9.hAst (e10 _ _ hAH)] at h1
        cases h1
        exact h2.2 k0 cv h hk0 hh
      obtain ⟨c, kinds, res⟩ := h
      obtain ⟨t, ka, rv, rfl, ht, hka, hrv⟩ := hV
      have hkl : kinds.length = 3 := hok.1.length_eq
      have hkc : kinds.count true = 2 := hok.1.count_eq true
      have hrl : res.length ≤ 1 := hok.2
      have ht : H11 t = some (.tup [.str c, .ref ka, rv]) := ht
      have hka : H11 ka = some (.lst (kinds.map fun b => V.str (ikind b))) := hka
      have hrv : Rep K H11 rv (.t (res.map Da.s)) := hrv
      have hkst : ka ≠ st := fun z => by
        obtain ⟨_, _, _, _, h2⟩ := S11
        rw [z, h2] at hka
        injection hka with e
        injection e with e
        have := congrArg List.length e
        rw [List.length_map, hkl] at this
        cases this
      refine q_asgM (m_shuf (xs := [a, b, w]) rfl (el_lst (ea_cons (ev_var rfl) (ea_cons (ev_var rfl) (ea_cons (ev_var rfl) ea_nil))) (by simp)) (by simp) hn S11 fun Pp ys H12 hys hPp x12 S12 h12 => ?_)
      have ht12 := Exs.tups S11 x12 _ _ ht
      have hka12 := x12 _ _ hkst hka
      have hrv12 := S11.rep x12 hrv
      refine q_asgR (ef_nil K) fun Ag ua0 H13 hAg e13 h13 r13 => ?_
      have hAg11 := fresh_exs x12 S12 hAg
      obtain ⟨hAst, hAl⟩ := S12.nst hAg
      obtain ⟨hPst, hPl⟩ := S11.nst hPp
      have hPA : Pp ≠ Ag := fun z => by rw [z, hAg] at h12; cases h12
      have htP : t ≠ Pp := fun z => by rw [z, hPp] at ht; cases ht
      have htA : t ≠ Ag := fun z => by rw [z, hAg11] at ht; cases ht
      have hkP : ka ≠ Pp := fun z => by rw [z, hPp] at hka; cases hka
      have hkA : ka ≠ Ag := fun z => by rw [z, hAg11] at hka; cases hka
      have hym : ∀ x, x ∈ ys → x ∈ [a, b, w] := fun x hx => hys.mem_iff.mp hx
      have hyl : ys.length = 3 := hys.length_eq
      show tSeq _ _ _ [some (.ref st), some (.ref ow), some (.ref hA), some (.int (d : Int)), some (.int (r : Int)), some (.str n), some (.str i), some (.str j), some (.str a), some (.str b), some (.str w), some (.str ar), some (.str xx), some (.ref t), some (.ref Pp), some (.ref Ag), none, none, none, none] H13
      refine q_seq (s_forL (xs := kinds.map fun b => V.str (ikind b)) (g := gName 16) (ev_ixT (i := 1) (ev_var rfl) ev_c (e13 _ _ ht12) rfl) (sq_of (e13 _ _ hka12)) (fun k σ' H' => ∃ us as rem x16, σ' = [some (.ref st), some (.ref ow), some (.ref hA), some (.int (d : Int)), some (.int (r : Int)), some (.str n), some (.str i), some (.str j), some (.str a), some (.str b), some (.str w), some (.str ar), some (.str xx), some (.ref t), some (.ref Pp), some (.ref Ag), x16, none, none, none] ∧ Exs st H11 H' ∧ StOk st l ns H' ∧
          H' t = some (.tup [.str c, .ref ka, rv]) ∧ H' ka = some (.lst (kinds.map fun b => V.str (ikind b))) ∧ Rep K H' rv (.t (res.map Da.s)) ∧ H' Ag = some (.lst us) ∧ Reps K H' us (as.map Arg.da) ∧ as.map Arg.isA = kinds.take k ∧ (∀ x, Arg.arr x ∈ as → x ∈ [a, b, w]) ∧ H' Pp = some (.lst (rem.map V.str)) ∧ (∀ x, x ∈ rem → x ∈ [a, b, w]) ∧ rem.length + (kinds.take k).count true = 3)
        (fun H14 e14 => ⟨ua0, [], ys, _, rfl, x12.trans (Ex.s (e13.trans e14)), S12.ex (e13.trans e14), (e13.trans e14) _ _ ht12, (e13.trans e14) _ _ hka12, hrv12.ex (e13.trans e14), e14 _ _ h13, r13.ex e14, rfl, (fun x hx => by cases hx), (e13.trans e14) _ _ h12, hym, by simp [hyl]⟩) (fun k σ' H' _ p => ?_) (fun k v σ' H' hv' p => ?_) (fun σ' H' p => ?_))
      · obtain ⟨_, _, _, _, _, _, _, _, h, _⟩ := p
        exact sq_of h
      · obtain ⟨us, as, rem, x16, rfl, x, S', t', ka', rv', ag', ru', has, hain, pp', hrem, hcnt⟩ := p
        rw [List.getElem?_map, Option.map_eq_some_iff] at hv'
        obtain ⟨kb, hkb, rfl⟩ := hv'
        have hkl3 : k < 3 := by have := (List.getElem?_eq_some_iff.mp hkb).1; omega
        have htk := take_succ_of hkb
        have hasl : as.length = k := by
          have := congrArg List.length has
          rw [List.length_map, List.length_take] at this
          omega
        show tIfS _ _ _ _ [some (.ref st), some (.ref ow), some (.ref hA), some (.int (d : Int)), some (.int (r : Int)), some (.str n), some (.str i), some (.str j), some (.str a), some (.str b), some (.str w), some (.str ar), some (.str xx), some (.ref t), some (.ref Pp), some (.ref Ag), some (.str (ikind kb)), none, none, none] H'
        refine s_if (et_is (et_strs (ev_var rfl) ev_c) (item_kind kb)) (fun hB H14 e14 => ?_) (fun hB H14 e14 => ?_)
        · subst hB
          have hc2 : (kinds.take k).count true + 1 ≤ 2 := by
            rw [← hkc, ← List.count_singleton_self (a := true), ← List.count_append, ← htk]
            exact (List.take_sublist _ _).count_le _
          have hr0 : rem.length - 1 < rem.length := by omega
          obtain ⟨z, hz⟩ : ∃ z, rem[rem.length - 1]? = some z := ⟨_, List.getElem?_eq_getElem hr0⟩
          have hzm := hrem z (List.mem_of_getElem? hz)
          have ag14 := e14 _ _ ag'
          have pp14 := e14 _ _ pp'
          refine ⟨_, rfl, Or.inl ⟨rfl, _, sq_of ag14⟩, _, rfl, Or.inl ⟨rfl, _, sq_of pp14⟩, Pp, rem.map V.str, .str z, rfl, rfl, pp14, by rw [List.length_map, List.getElem?_map, hz]; rfl, by show 2 ≤ sizeLine; rw [sizeLine_eq]; omega, fun p hp => ?_⟩
          have hAgp : Ag ≠ p := fun e => by rw [e] at ag14; rw [upd_ne (fun z => hPA (z ▸ e).symm)] at hp; rw [ag14] at hp; cases hp
          have agb : upd (upd H14 Pp (.lst (rem.map V.str).dropLast)) p (.tup [.str "array", .str z]) Ag = some (.lst us) := by
            rw [upd_ne hAgp, upd_ne hPA.symm]
            exact ag14
          have eb : Ex (upd H14 Pp (.lst (rem.map V.str).dropLast)) (upd (upd H14 Pp (.lst (rem.map V.str).dropLast)) p (.tup [.str "array", .str z])) := Ex.new hp
          have xa : Exs Pp H14 (upd H14 Pp (.lst (rem.map V.str).dropLast)) := exs_upd
          have keep : ∀ q o, q ≠ Pp → q ≠ Ag → H' q = some o → upd (upd (upd H14 Pp (.lst (rem.map V.str).dropLast)) p (.tup [.str "array", .str z])) Ag (.lst (us ++ [.ref p])) q = some o := fun q o h1 h2 h3 => by
            rw [upd_ne h2]
            exact eb _ _ (by rw [upd_ne h1]; exact e14 _ _ h3)
          have rk : ∀ {v : V} {dd : Da}, Rep K H' v dd → Rep K (upd (upd (upd H14 Pp (.lst (rem.map V.str).dropLast)) p (.tup [.str "array", .str z])) Ag (.lst (us ++ [.ref p]))) v dd := fun {v dd} h => ((((h.ex e14).exs pp14 xa).ex eb).exs agb exs_upd)
          have rks : ∀ {v : List V} {dd : List Da}, Reps K H' v dd → Reps K (upd (upd (upd H14 Pp (.lst (rem.map V.str).dropLast)) p (.tup [.str "array", .str z])) Ag (.lst (us ++ [.ref p]))) v dd := fun {v dd} h => ((((h.ex e14).exs pp14 xa).ex eb).exs agb exs_upd)
          have rp : Rep K (upd (upd (upd H14 Pp (.lst (rem.map V.str).dropLast)) p (.tup [.str "array", .str z])) Ag (.lst (us ++ [.ref p]))) (.ref p) (Arg.arr z).da := by
            refine Rep.exs agb exs_upd ?_
            exact rep_t upd_same (Reps.cons_ (by unfold Rep; rfl) (Reps.cons_ (by unfold Rep; rfl) Reps.nil_))
          refine ⟨Ag, us, .ref p, rfl, rfl, agb, sz_lt (by rw [ru'.len, List.length_map]; omega), us ++ [.ref p], as ++ [.arr z], rem.dropLast, _, rfl, ?_, ?_, keep _ _ htP htA t', keep _ _ hkP hkA ka', rk rv', upd_same, ?_, ?_, ?_, ?_, ?_, ?_⟩
          · exact (((((x.trans (Ex.s e14)).mutD hPp).trans (Ex.s eb))).mutD hAg11)
          · exact (((S'.ex e14).upd_ hPst hPl).ex eb).upd_ hAst hAl
          · rw [List.map_append]
            exact Reps.append (rks ru') (Reps.cons_ rp Reps.nil_)
          · rw [List.map_append, has, htk]
            rfl
          · intro y hy
            rcases List.mem_append.mp hy with hy | hy
            · exact hain y hy
            · have := List.mem_singleton.mp hy
              injection this with this
              rw [this]
              exact hzm
          · rw [upd_ne hPA]
            have : Pp ≠ p := fun e => by rw [← e, upd_same] at hp; cases hp
            rw [upd_ne this, upd_same, List.map_dropLast]
          · exact fun y hy => hrem y ((List.dropLast_sublist rem).subset hy)
          · rw [List.length_dropLast, htk, List.count_append, List.count_singleton_self]
            omega
        · subst hB
          refine s_appR (e14 _ _ ag') (ru'.ex e14) (by rw [List.length_map]; omega) (ev_var rfl) (er_tup (er_cons (ep_Rs ev_c) (er_cons (er_tup (er_cons (ep_Rs ev_c) (er_cons (ep_Rs (ev_var rfl)) er_nil)) (by simp)) (er_cons (er_tup (er_cons (ep_Rs ev_c) (er_cons (ep_Ri ev_c) er_nil)) (by simp)) er_nil))) (by simp)) fun H15 us' x15 ag15 r15 => ?_
          refine ⟨us', as ++ [.num n], rem, _, rfl, exs_base8 hAg11 (x.trans (Ex.s e14)) x15, (S'.ex e14).exs_ hAst hAl x15, x15 _ _ htA (e14 _ _ t'), x15 _ _ hkA (e14 _ _ ka'), (rv'.ex e14).exs (e14 _ _ ag') x15, ag15, by rw [List.map_append]; exact r15, ?_, ?_, x15 _ _ hPA (e14 _ _ pp'), hrem, ?_⟩
          · rw [List.map_append, has, htk]
            rfl
          · intro y hy
            rcases List.mem_append.mp hy with hy | hy
            · exact hain y hy
            · cases List.mem_singleton.mp hy
          · rw [htk, List.count_append]
            simpa using hcnt
      · obtain ⟨us, as, rem, x16, rfl, x, S', t', ka', rv', ag', ru', has, hain, pp', hrem, hcnt⟩ := p
        rw [List.length_map, List.take_length] at has
        have x0 := x011.trans x
        have hal : as.length = 3 := by
          have := congrArg List.length has
          rw [List.length_map] at this
          omega
        refine q_asgP (P := fun v H => Rep K H v (.t (List.replicate res.length (.t [.s xx]) ++ [.t []]))) (er_catT (σ := [some (.ref st), some (.ref ow), some (.ref hA), some (.int (d : Int)), some (.int (r : Int)), some (.str n), some (.str i), some (.str j), some (.str a), some (.str b), some (.str w), some (.str ar), some (.str xx), some (.ref t), some (.ref Pp), some (.ref Ag), x16, none, none, none]) (H := H') (er_rep (er_tup (er_cons (er_tup (er_cons (ep_Rs (ev_var (i := 12) rfl)) er_nil) (by simp)) er_nil) (by simp)) (ev_is (ev_lenR (ds := res.map Da.s) (ev_ixT (K := K) (i := 2) (ev_var (i := 13) rfl) ev_c t' rfl) rv') (by rw [List.length_map])) (by omega)) (er_tup (er_cons (er_tup er_nil (by simp)) er_nil) (by simp)) (by simp; omega)) fun tv H14 e14 rt => ?_
        have S14 := S'.ex e14
        refine s_retM (edr_tup (K := K) (edr_cons (edr_p (d := .s "call") S14 (ep_Rs ev_c)) fun H15 x15 S15 => edr_cons (edr_p (d := .s c) S15 (ep_Rs (ev_ixT (i := 0) (ev_var rfl) ev_c (Exs.tups S14 x15 _ _ (e14 _ _ t')) rfl))) fun H16 x16 S16 => edr_cons (edr_p (d := .t (as.map Arg.da)) S16 (er_tupL (ep_lst (ev_var rfl) (x16 _ _ hAst (x15 _ _ hAst (e14 _ _ ag'))) (S15.reps x16 (S14.reps x15 (ru'.ex e14)))))) fun H17 x17 S17 => edr_cons (p := fun dd => ∃ ts : List Str, dd = .t (ts.map Da.s) ∧ ts.length ≤ 1 ∧ ∀ z, z ∈ ts → z ∈ [n, i, j]) (fun Q' q' => ?_) fun H18 x18 S18 => edr_nil S18) (fun l ⟨_, _, h1, _, _, _, h2, _, _, _, h3, _, _, _, h4, _, h5⟩ => by subst h1 h2 h3 h4 h5; simp) _ fun v H15 x15 S15 ⟨dd, rv2, hdd⟩ => ?_)
        · have rt17 := S16.rep x17 (S15.rep x16 (S14.rep x15 rt))
          refine m_op (ev_var rfl) fun H18 e18 => m_call (ea_cons (ev_var rfl) (ea_cons (ev_lenR (ev_var rfl) (rt17.ex e18)) ea_nil)) fun H19 e19 => ⟨st, l, ns, _, rfl, by rw [List.length_append, List.length_singleton]; omega, by rw [List.length_append, List.length_singleton, List.length_replicate]; omega, hn, S17.ex (e18.trans e19), fun g H20 g0 g1 x20 S20 => ?_⟩
          have rt20 := (S17.ex (e18.trans e19)).rep x20 (rt17.ex (e18.trans e19))
          unfold Rep at rt20
          obtain ⟨p, xs, rfl, hp, rxs⟩ := rt20
          obtain ⟨gn, rfl⟩ : ∃ gn : Nat, g = (gn : Int) := ⟨g.toNat, by omega⟩
          have g1' : gn < (List.replicate res.length (Da.t [.s xx]) ++ [Da.t []]).length := by omega
          obtain ⟨e, he⟩ : ∃ e, (List.replicate res.length (Da.t [.s xx]) ++ [Da.t []])[gn]? = some e := ⟨_, List.getElem?_eq_getElem g1'⟩
          obtain ⟨u, hu, ru⟩ := rxs.at_ he
          refine ⟨p, xs, _, u, rfl, rfl, st_of hp, atI_nat hu, q' u H20 ((Ex.s (e18.trans e19)).trans x20) S20 ⟨e, ru, ?_⟩⟩
          rcases List.mem_append.mp (List.mem_of_getElem? he) with h | h
          · have := List.eq_of_mem_replicate h
            subst this
            exact ⟨[xx], rfl, by simp, fun z hz => by rw [List.mem_singleton.mp hz]; exact hxx'⟩
          · have := List.mem_singleton.mp h
            subst this
            exact ⟨[], rfl, by simp, fun z hz => by cases hz⟩
        · obtain ⟨r1, rfl, d1, r2, rfl, rfl, d2, r3, rfl, rfl, d3, r4, rfl, rfl, d4, r5, rfl, ⟨ts, rfl, htl, htm⟩, rfl⟩ := hdd
          exact q v (.call c as ts none) H15 rv2 (good_call htl htm hain ⟨_, hhm, rfl, has⟩) ((x0.trans (Ex.s e14)).trans x15) S15
    · -- if, while
      have S9 := S8.ex e9
      have G9 := G8.ex e9
      have x09 := x08.trans (Ex.s e9)
      obtain ⟨d', rfl⟩ : ∃ d', d = d' + 1 := by
        cases d with
        | zero => simp at hB6
        | succ d' => exact ⟨d', rfl⟩
      refine q_asgP (P := fun v H => Rep K H v (.t [.s "less", .t [.s "name", .s i], .t [.s "name", .s n]])) (er_tup (er_cons (ep_Rs ev_c) (er_cons (er_tup (er_cons (ep_Rs ev_c) (er_cons (ep_Rs (ev_var rfl)) er_nil)) (by simp)) (er_cons (er_tup (er_cons (ep_Rs ev_c) (er_cons (ep_Rs (ev_var rfl)) er_nil)) (by simp)) er_nil))) (by simp)) fun tv H10 e10 rt => ?_
      have some_ : ∀ {σ : L2.St} {H1 : Hp} {Q' : VK}, σ[0]? = some (some (.ref st)) → σ[1]? = some (some (.ref ow)) → σ[2]? = some (some (.ref hA)) → σ[3]? = some (some (.int ((d' + 1 : Nat) : Int))) → GE K st l ow hA ns [n, i, j, a, b, w] hs H1 → (∀ v b' H', Rep K H' v (.t (das b')) → GoodB hs [n, i, j] [a, b, w] (d' + 1) b' → Exs st H1 H' → StOk st l ns H' → Q' v H') → tCall (spSo K (d' + 1)) [] E0 (tCons (tVar 0) (tCons (tVar 1) (tCons (tVar 2) (tCons (tOp (rI0 fun i j => V.int (i - j)) (tVar 3) (tC (.int 1))) tNil)))) σ H1 Q' := fun {σ H1 Q'} h0 h1 h2 h3 g qq => by
        refine m_call (ea_cons (ev_var h0) (ea_cons (ev_var h1) (ea_cons (ev_var h2) (ea_cons (ev_is (ev_op (ev_var h3) ev_c rv_I0) (by congr 1; omega : _ = V.int (d' : Int))) ea_nil)))) fun H2 e2 => ?_
        exact ⟨st, l, ow, hA, ns, _, hs, rfl, by omega, g.ex e2, fun v b' H' hv hg x' S' => qq v b' H' hv hg ((Ex.s e2).trans x') S'⟩
      refine q_asgM (some_ rfl rfl rfl rfl (G9.ex e10) fun bv b1 H11 rb gb x11 S11 => ?_)
      have x011 := (x09.trans (Ex.s e10)).trans x11
      have rt11 := (S9.ex e10).rep x11 rt
      refine q_when (et_test (ev_op (ev_var rfl) ev_c (rv_eq rfl))) (fun _ H12 e12 => ?_) (fun _ H12 e12 => ?_)
      · refine s_retM (edr_tup (K := K) (edr_cons (edr_p (d := .s "if") (S11.ex e12) (ep_Rs ev_c)) fun H13 x13 S13 => edr_cons (edr_p (d := .t [.s "less", .t [.s "name", .s i], .t [.s "name", .s n]]) S13 (ep_R (ev_var rfl) ((S11.ex e12).rep x13 (rt11.ex e12)))) fun H14 x14 S14 => edr_cons (edr_p (d := .t (das b1)) S14 (ep_R (ev_var rfl) (S13.rep x14 ((S11.ex e12).rep x13 (rb.ex e12))))) fun H15 x15 S15 => edr_cons (p := fun dd => ∃ b2, dd = .t (das b2) ∧ GoodB hs [n, i, j] [a, b, w] (d' + 1) b2) (fun Q' q' => some_ rfl rfl rfl rfl ((((G9.ex e10).step x11 S11).ex e12).step ((x13.trans x14).trans x15) S15) fun v b2 H16 r2 g2 x16 S16 => q' v H16 x16 S16 ⟨_, r2, b2, rfl, g2⟩) fun H16 x16 S16 => edr_nil S16) (fun l ⟨_, _, h1, _, _, _, h2, _, _, _, h3, _, _, _, h4, _, h5⟩ => by subst h1 h2 h3 h4 h5; simp) _ fun v H13 x13 S13 ⟨dd, rv, hdd⟩ => ?_)
        obtain ⟨r1, rfl, d1, r2, rfl, rfl, d2, r3, rfl, rfl, d3, r4, rfl, rfl, d4, r5, rfl, ⟨b2, rfl, g2⟩, rfl⟩ := hdd
        exact q v (.ite (.t [.s "less", .t [.s "name", .s i], .t [.s "name", .s n]]) b1 b2) H13 (by rw [Stm.da]; exact rv) (good_ite gb g2) ((x011.trans (Ex.s e12)).trans x13) S13
      · exact ret (s := .whl (.t [.s "less", .t [.s "name", .s i], .t [.s "name", .s n]]) b1 none) rfl (x011.trans (Ex.s e12)) (S11.ex e12) (by rw [Stm.da]; exact er_tup (er_cons (ep_Rs ev_c) (er_cons (ep_R (ev_var rfl) (rt11.ex e12)) (er_cons (ep_R (ev_var rfl) (rb.ex e12)) er_nil))) (by simp [pts])) (good_whl gb)
end
end K88

set_option maxHeartbeats 4000000
namespace K88
open PySem L2 Evl
/-! ### the core -/
def spCore (K : PySem.W.Frag) : Sp := fun vs H Q _ => ∃ (st l : Addr) (ns : List Int), vs = [.ref st] ∧ ns.length ≤ 1000 ∧ StOk st l ns H ∧ ∀ v C H', Rep K H' v (coreDa C) → OkC C → Exs st H H' → StOk st l ns H' → Q v H'
structure PrcOk (hs : List Hd8) (h : Hd8) (p : Prc) : Prop where
  nm : p.name = h.1
  ks : p.items.map (·.1) = h.2.1
  wb : Wb 4 p.body
  ok : ∀ s, s ∈ flat 4 p.body → OkSh hs p.iv p.av s
  il : p.items.length = 3
  ia : ∀ it, it ∈ p.items → it.2 ∈ (if it.1 then p.av else p.iv)
  ri : p.iv.length = 3
  ra : p.av.length = 3
  nd : (p.iv ++ p.av).Nodup
  wd : ∀ x, x ∈ p.iv ++ p.av → Wrd x
theorem okC_of {hs : List Hd8} {C : List Prc} (hl : C.length = hs.length) (h1 : 1 ≤ hs.length) (h6 : hs.length ≤ 6) (hn : (hs.map (·.1)).Pairwise fun x y => ltS x y = true) (hw : ∀ h, h ∈ hs → PyData.strOk h.1 = true)
    (hp : ∀ (j : Nat) p h, C[j]? = some p → hs[j]? = some h → PrcOk hs h p) : OkC C := by
  have at_ : ∀ p, p ∈ C → ∃ h, h ∈ hs ∧ PrcOk hs h p := fun p hpm => by
    obtain ⟨j, hj⟩ := List.getElem?_of_mem hpm
    have hjl : j < hs.length := by have := (List.getElem?_eq_some_iff.mp hj).1; omega
    exact ⟨_, List.getElem_mem hjl, hp j p _ hj (List.getElem?_eq_getElem hjl)⟩
  have en : C.map Prc.name = hs.map (·.1) := by
    refine List.ext_getElem? fun j => ?_
    rw [List.getElem?_map, List.getElem?_map]
    cases hc : C[j]? with
    | none =>
      have := List.getElem?_eq_none_iff.mp hc
      rw [List.getElem?_eq_none (by omega)]
      rfl
    | some p =>
      have hjl : j < hs.length := by have := (List.getElem?_eq_some_iff.mp hc).1; omega
      rw [List.getElem?_eq_getElem hjl]
      have := (hp j p _ hc (List.getElem?_eq_getElem hjl)).nm
      simp [this]
  refine ⟨by omega, by omega, ?_, fun p hpm => ?_, fun p hpm => ?_⟩
  · rw [← en] at hn
    exact List.pairwise_map.mp hn
  · obtain ⟨h, _, k⟩ := at_ p hpm
    refine ⟨k.wb, fun s hs' => ?_, k.il, k.ia, k.ri, k.ra, k.nd, fun x hx => (k.wd x hx).sh, fun x hx => (k.wd x hx).len, fun x hx => (k.wd x hx).so⟩
    have := k.ok s hs'
    cases s with
    | call c as ts o =>
      obtain ⟨k1, k2, h', hh', e1, e2⟩ := this
      refine ⟨k1, k2, ?_⟩
      obtain ⟨j, hj⟩ := List.getElem?_of_mem hh'
      have hjl : j < C.length := by have := (List.getElem?_eq_some_iff.mp hj).1; omega
      have kq := hp j _ h' (List.getElem?_eq_getElem hjl) hj
      exact ⟨_, List.getElem_mem hjl, by rw [kq.nm, e1], by rw [kq.ks, e2]⟩
    | _ => exact this
  · obtain ⟨h, hh, k⟩ := at_ p hpm
    rw [k.nm]
    exact hw h hh
section
variable {K : PySem.W.Frag} {σ : L2.St} {H : Hp} {De : Ends}
/-- xs.append(('array', ys.pop())) -/
theorem s_appPop {ia ip : Nat} {Pp Ag : Addr} {rem : List Str} {us : List V} (hia : σ[ia]? = some (some (.ref Ag))) (hip : σ[ip]? = some (some (.ref Pp))) (hPA : Pp ≠ Ag) (hP : H Pp = some (.lst (rem.map V.str))) (hr : 0 < rem.length) (hA : H Ag = some (.lst us)) (hu : us.length ≤ 1000)
    (k : ∀ (z : Str) (H' : Hp) (us' : List V), z ∈ rem → (∀ q o, q ≠ Pp → q ≠ Ag → H q = some o → H' q = some o) → (∀ v dd, Rep K H v dd → Rep K H' v dd) → H' Ag = some (.lst us') → (∀ ds, Reps K H us ds → Reps K H' us' (ds ++ [.t [.s "array", .s z]])) → H' Pp = some (.lst (rem.dropLast.map V.str)) → De.nx σ H') :
    tDrop (tBM K "list" rAppend (tVar ia) (tCons (tTup (tCons (tC (.str "array")) (tCons (tBM0 K "list" rPop (tVar ip)) tNil))) tNil)) De σ H := by
  obtain ⟨z, hz⟩ : ∃ z, rem[rem.length - 1]? = some z := ⟨_, List.getElem?_eq_getElem (by omega)⟩
  refine ⟨_, hia, Or.inl ⟨rfl, _, sq_of hA⟩, _, hip, Or.inl ⟨rfl, _, sq_of hP⟩, Pp, rem.map V.str, .str z, rfl, rfl, hP, by rw [List.length_map, List.getElem?_map, hz]; rfl, by show 2 ≤ sizeLine; rw [sizeLine_eq]; omega, fun p hp => ?_⟩
  have hAgp : Ag ≠ p := fun e => by rw [e] at hA; rw [upd_ne (fun z => hPA (z ▸ e).symm)] at hp; rw [hA] at hp; cases hp
  have agb : upd (upd H Pp (.lst (rem.map V.str).dropLast)) p (.tup [.str "array", .str z]) Ag = some (.lst us) := by
    rw [upd_ne hAgp, upd_ne hPA.symm]
    exact hA
  have eb : Ex (upd H Pp (.lst (rem.map V.str).dropLast)) (upd (upd H Pp (.lst (rem.map V.str).dropLast)) p (.tup [.str "array", .str z])) := Ex.new hp
  have xa : Exs Pp H (upd H Pp (.lst (rem.map V.str).dropLast)) := exs_upd
  refine ⟨Ag, us, .ref p, rfl, rfl, agb, sz_lt (by omega), k z _ (us ++ [.ref p]) (List.mem_of_getElem? hz) (fun q o h1 h2 h3 => ?_) (fun v dd h => (((h.exs hP xa).ex eb).exs agb exs_upd)) upd_same (fun ds h => ?_) ?_⟩
  · rw [upd_ne h2]
    exact eb _ _ (by rw [upd_ne h1]; exact h3)
  · refine Reps.append (((h.exs hP xa).ex eb).exs agb exs_upd) (Reps.cons_ (Rep.exs agb exs_upd ?_) Reps.nil_)
    exact rep_t upd_same (Reps.cons_ (by unfold Rep; rfl) (Reps.cons_ (by unfold Rep; rfl) Reps.nil_))
  · rw [upd_ne hPA]
    have : Pp ≠ p := fun e => by rw [← e, upd_same] at hp; cases hp
    rw [upd_ne this, upd_same, List.map_dropLast]
end
theorem HdV.ex8 {K : PySem.W.Frag} {H H' : Hp} {v : V} {h : Hd8} (hv : HdV K H v h) (e : Ex H H') : HdV K H' v h := by
  obtain ⟨t, ka, rv, rfl, h1, h2, h3⟩ := hv
  exact ⟨t, ka, rv, rfl, e _ _ h1, e _ _ h2, h3.ex e⟩
theorem HdL.ex8 {K : PySem.W.Frag} {H H' : Hp} {hv : List V} {hs : List Hd8} (h : HdL K H hv hs) (e : Ex H H') : HdL K H' hv hs := ⟨h.1, fun i v g h1 h2 => (h.2 i v g h1 h2).ex8 e⟩
theorem HdL.refs {K : PySem.W.Frag} {H : Hp} {hv : List V} {hs : List Hd8} (h : HdL K H hv hs) : ∀ u, u ∈ hv → ∀ z, u ≠ .str z := fun u hu z e => by
  obtain ⟨i, hi⟩ := List.getElem?_of_mem hu
  have hil : i < hs.length := by have := (List.getElem?_eq_some_iff.mp hi).1; have := h.1; omega
  obtain ⟨t, _, _, rfl, _⟩ := h.2 i u _ hi (List.getElem?_eq_getElem hil)
  cases e
theorem kinds_of {ys : List Str} (h : ys.Perm ["int", "array", "array"]) : ∃ ks : List Bool, ys = ks.map ikind ∧ ks.Perm [false, true, true] := by
  refine ⟨ys.map fun y : Str => decide (y = "array"), ?_, ?_⟩
  · rw [List.map_map]
    refine (List.map_id ys).symm.trans (List.map_congr_left fun y hy => ?_)
    have := h.mem_iff.mp hy
    simp only [List.mem_cons, List.not_mem_nil, or_false] at this
    rcases this with rfl | rfl | rfl <;> decide +kernel
  · have := h.map fun y : Str => decide (y = "array")
    rw [show ((["int", "array", "array"] : List Str).map fun y : Str => decide (y = "array")) = [false, true, true] from by decide +kernel] at this
    exact this
end K88

set_option maxHeartbeats 4000000
namespace K88
open PySem L2 Evl
theorem HdL.dr {K : PySem.W.Frag} {H H' : Hp} {hv : List V} {hs : List Hd8} {st l : Addr} {ns : List Int} (h : HdL K H hv hs) (ho : ∀ h, h ∈ hs → HdOk h) (S : StOk st l ns H) (x : Exs st H H') : HdL K H' hv hs := by
  obtain ⟨_, _, _, _, h2⟩ := S
  exact h.exs ho h2 x (.inl (by simp))
theorem m_tup {σ : L2.St} {H : Hp} {ta : TA} {Q : VK} (h : ta σ H fun xs H1 => xs.length ≤ sizeLine ∧ ∀ p, H1 p = none → Q (.ref p) (upd H1 p (.tup xs))) : tTup ta σ H Q := h
theorem m_callT {σ : L2.St} {H : Hp} {sp : Sp} {E : XK} {ta : TA} {Q : VK} (h : ta σ H fun vs H2 => sp vs H2 Q E) : tCall sp [] E ta σ H Q := by
  have : (fun vs H2 => sp (vs ++ []) H2 Q E) = fun vs H2 => sp vs H2 Q E := by funext vs H2; rw [List.append_nil]
  show ta σ H (fun vs H2 => sp (vs ++ []) H2 Q E)
  rw [this]
  exact h
section
variable {P : Program} {w : World} {K : PySem.W.Frag} {mg : Str → Option Value} {base : Heap}
theorem sc_law_core : FnScope ["state", "names", "heads", "name", "kinds", "core", "results", "own", "spots", "items", "kind", "places", "body"] ["state"] (defScope (topS 29)) := ⟨rfl, rfl, rfl, by decide +kernel, rfl, by decide +kernel, by decide +kernel⟩
theorem ok_law_core {f : Addr} {fd : FuncData} (F : FnP K "_law_core" "_law_core" (topS 29) f fd) (T : Bt mg) (h_law_draw : Has P w K mg base "_law_draw" ["state", "most"] 1 spDraw) (h_law_words : Has P w K mg base "_law_words" ["state", "many"] 2 spWords) (h_law_shuffled : Has P w K mg base "_law_shuffled" ["state", "items"] 2 spShuf) (h_law_some_statements : Has P w K mg base "_law_some_statements" ["state", "own", "heads", "depth"] 10 (spSo K 4)) : FnOk P w K mg base CX0 11 f fd ["state"] (spCore K) := by
  refine F.ok sc_law_core (fun vs H Q E h => ?_) (fun cdv A outer s H vs Q E hr h => ?_)
  · obtain ⟨st, l, ns, rfl, _⟩ := h
    rfl
  · obtain ⟨st, l, ns, rfl, hn, S, q⟩ := h
    refine ⟨_, PSs.nox
      (pss_cons (ps_set (i := 1) sc_law_core.nd rfl (Or.inl rfl) (pe_callB cr_sortedS (by rfl) T.m_sorted (by decide +kernel) (pa_cons (pe_callH h_law_words (hr.mono (by decide)) (by rfl) (pa_cons (pv 0) (pa_cons (pe_op op_add pe_int (pe_callH h_law_draw (hr.mono (by decide)) (by rfl) (pa_cons (pv 0) (pa_cons pe_int pa_nil)))) pa_nil))) pa_nil)))
      (pss_cons (ps_set (i := 2) sc_law_core.nd rfl (Or.inl rfl) (pe_lst pa_nil))
      (pss_cons (ps_for PassesOwn.never rfl (pi_listK K rfl (pv 1)) (pg_name (i := 3) sc_law_core.nd rfl (Or.inl rfl)) (pss_cons (ps_set (i := 4) sc_law_core.nd rfl (Or.inl rfl) (pe_callH h_law_shuffled (hr.mono (by decide)) (by rfl) (pa_cons (pv 0) (pa_cons (pe_lst (pa_cons pe_str (pa_cons pe_str (pa_cons pe_str pa_nil)))) pa_nil))))
      (pss_one (ps_expr (pe_bm PySem.F.plainAttrs_list PySem.F.slot_list_append PySem.F.type_list_append mt_append (pv 2) (pa_cons (pe_tup (pa_cons (pv 3) (pa_cons (pv 4) (pa_cons (pe_ix (ix_listK K rfl) (pe_lst (pa_cons (pe_tup pa_nil) (pa_cons (pe_tup (pa_cons pe_str pa_nil)) pa_nil))) (pe_callH h_law_draw (hr.mono (by decide)) (by rfl) (pa_cons (pv 0) (pa_cons pe_int pa_nil))) (fun _ _ => rfl)) pa_nil)))) pa_nil))))))
      (pss_cons (ps_set (i := 5) sc_law_core.nd rfl (Or.inl rfl) (pe_lst pa_nil))
      (pss_cons (ps_for PassesOwn.never rfl (pi_listK K rfl (pv 2)) (pg_tupK K rfl (n := 3) rfl (pgs_cons (pg_name (i := 3) sc_law_core.nd rfl (Or.inl rfl)) (pgs_cons (pg_name (i := 4) sc_law_core.nd rfl (Or.inl rfl)) (pgs_cons (pg_name (i := 6) sc_law_core.nd rfl (Or.inl rfl)) pgs_nil)))) (pss_cons (ps_set (i := 7) sc_law_core.nd rfl (Or.inl rfl) (pe_callH h_law_words (hr.mono (by decide)) (by rfl) (pa_cons (pv 0) (pa_cons pe_int pa_nil))))
      (pss_cons (ps_set (i := 8) sc_law_core.nd rfl (Or.inl rfl) (pe_lst (pa_cons (pe_ix (ix_listK K rfl) (pv 7) pe_int (fun _ _ => rfl)) (pa_cons (pe_ix (ix_listK K rfl) (pv 7) pe_int (fun _ _ => rfl)) pa_nil))))
      (pss_cons (ps_set (i := 9) sc_law_core.nd rfl (Or.inl rfl) (pe_lst pa_nil))
      (pss_cons (ps_for PassesOwn.never rfl (pi_listK K rfl (pv 4)) (pg_name (i := 10) sc_law_core.nd rfl (Or.inl rfl)) (pss_one (ps_if (pt_cmpR op_eq (pv 10) pe_str (nomark _)) (pss_one (ps_expr (pe_bm PySem.F.plainAttrs_list PySem.F.slot_list_append PySem.F.type_list_append mt_append (pv 9) (pa_cons (pe_tup (pa_cons pe_str (pa_cons (pe_ix (ix_listK K rfl) (pv 7) pe_int (fun _ _ => rfl)) pa_nil))) pa_nil)))) (pss_one (ps_expr (pe_bm PySem.F.plainAttrs_list PySem.F.slot_list_append PySem.F.type_list_append mt_append (pv 9) (pa_cons (pe_tup (pa_cons pe_str (pa_cons (pe_bm0 PySem.F.plainAttrs_list PySem.F.slot_list_pop PySem.F.type_list_pop mt_pop (pv 8)) pa_nil))) pa_nil)))))))
      (pss_cons (ps_set (i := 11) sc_law_core.nd rfl (Or.inl rfl) (pe_tup (pa_cons (pe_tup (pa_cons pe_str (pa_cons (pe_ix (ix_listK K rfl) (pv 7) pe_int (fun _ _ => rfl)) pa_nil))) (pa_cons (pe_tup (pa_cons pe_str (pa_cons (pe_ix (ix_listK K rfl) (pv 7) pe_int (fun _ _ => rfl)) pa_nil))) (pa_cons (pe_tup (pa_cons pe_str (pa_cons (pe_ix (ix_listK K rfl) (pv 7) pe_int (fun _ _ => rfl)) pa_nil))) pa_nil)))))
      (pss_cons (ps_set (i := 12) sc_law_core.nd rfl (Or.inl rfl) (pe_callH h_law_some_statements (hr.mono (by decide)) (by rfl) (pa_cons (pv 0) (pa_cons (pv 7) (pa_cons (pv 2) (pa_cons pe_int pa_nil))))))
      (pss_one (ps_expr (pe_bm PySem.F.plainAttrs_list PySem.F.slot_list_append PySem.F.type_list_append mt_append (pv 5) (pa_cons (pe_tup (pa_cons (pv 3) (pa_cons (pe_callTy (call_tuple_ofK K rfl) (by rfl) T.m_tuple (by decide +kernel) (pa_cons (pv 9) pa_nil)) (pa_cons (pv 6) (pa_cons (pv 11) (pa_cons (pe_tup pa_nil) (pa_cons (pe_tup pa_nil) (pa_cons (pe_tup pa_nil) (pa_cons (pe_tup pa_nil) (pa_cons (pv 12) pa_nil)))))))))) pa_nil)))))))))))
      (pss_one (ps_ret (pe_callTy (call_tuple_ofK K rfl) (by rfl) T.m_tuple (by decide +kernel) (pa_cons (pv 5) pa_nil))))))))), ?_⟩
    -- names
    refine q_asgM (m_cb1 (m_callT (m_cons ⟨_, rfl, m_cons (m_op ev_c fun H1 e1 => m_draw rfl (by decide) (by decide) hn (S.ex e1) fun r H2 hr2 x2 S2 => rv_I0 H2 (Ex.refl _) _ fun H3 e3 => m_nil ?_)⟩)))
    refine ⟨st, l, ns, 2 + r, by rw [Int.natCast_add]; rfl, by omega, hn, S2.ex e3, fun Wa ws H4 hwl hwn hww hWa x4 S4 h4 => ?_⟩
    refine ⟨Wa, ws, rfl, sq_of h4, by omega, fun zs Na hperm hsrt hNa => ?_⟩
    have x04 : Exs st H H4 := (((Ex.s e1).trans x2).trans (Ex.s e3)).trans x4
    have hzl : zs.length = 2 + r := by rw [hperm.length_eq, hwl]
    have hzs : zs.Pairwise fun x y => ltS x y = true := strict_of (sorted_pw hsrt) (hperm.nodup_iff.mpr hwn)
    have hzw : ∀ x, x ∈ zs → Wrd x := fun x hx => hww x (hperm.mem_iff.mp hx)
    refine (?_ : tSeq _ _ _ [some (.ref st), some (.ref Na), none, none, none, none, none, none, none, none, none, none, none] (upd H4 Na (.lst (zs.map V.str))))
    have S5 : StOk st l ns (upd H4 Na (.lst (zs.map V.str))) := S4.ex (Ex.new hNa)
    have x05 : Exs st H (upd H4 Na (.lst (zs.map V.str))) := x04.trans (Ex.s (Ex.new hNa))
    have n5 : upd H4 Na (.lst (zs.map V.str)) Na = some (.lst (zs.map V.str)) := upd_same
    obtain ⟨hNst, hNl⟩ := S4.nst hNa
    generalize upd H4 Na (.lst (zs.map V.str)) = H5 at S5 x05 n5
    -- heads
    refine q_asgR (ef_nil K) fun Hd uh0 H6 hHd e6 h6 r6 => ?_
    have eh0 := reps_strs (xs := []) r6
    subst eh0
    obtain ⟨hHst, hHl⟩ := S5.nst hHd
    have hNH : Na ≠ Hd := fun z => by rw [z, hHd] at n5; cases n5
    refine q_seq (s_forL (xs := zs.map V.str) (g := gName 3) (ev_var rfl) (sq_of (e6 _ _ n5)) (fun i σ' H' => ∃ hv hs x3 x4, σ' = [some (.ref st), some (.ref Na), some (.ref Hd), x3, x4, none, none, none, none, none, none, none, none] ∧ Exs st H5 H' ∧ StOk st l ns H' ∧ H' Hd = some (.lst hv) ∧ HdL K H' hv hs ∧ (∀ h, h ∈ hs → HdOk h) ∧ hs.map (·.1) = zs.take i)
      (fun H7 e7 => ⟨[], [], _, _, rfl, Ex.s (e6.trans e7), S5.ex (e6.trans e7), e7 _ _ h6, ⟨rfl, fun i v h hi => (by cases hi)⟩, (fun h hh => by cases hh), rfl⟩) (fun i σ' H' _ p => ?_) (fun i v σ' H' hv p => ?_) (fun σ' H' p => ?_))
    · obtain ⟨_, _, _, _, _, x, _⟩ := p
      exact sq_of (x _ _ hNst n5)
    · obtain ⟨hv', hs, x3, x4, rfl, x, S', hh', hL, hok, hnm⟩ := p
      rw [List.getElem?_map, Option.map_eq_some_iff] at hv
      obtain ⟨nm, hnm', rfl⟩ := hv
      have hil : i < zs.length := (List.getElem?_eq_some_iff.mp hnm').1
      have hsl : hs.length ≤ 6 := by
        have := congrArg List.length hnm
        rw [List.length_map, List.length_take] at this
        omega
      have hvl := hL.1
      show tSeq _ _ _ [some (.ref st), some (.ref Na), some (.ref Hd), some (.str nm), x4, none, none, none, none, none, none, none, none] H'
      refine q_asgM (m_shuf (xs := ["int", "array", "array"]) rfl (el_lst (ea_cons ev_c (ea_cons ev_c (ea_cons ev_c ea_nil))) (by simp)) (by simp) hn S' fun Ka ys H7 hys hKa x7 S7 h7 => ?_)
      obtain ⟨ks, rfl, hks⟩ := kinds_of hys
      rw [List.map_map] at h7
      have hh7 := x7 _ _ hHst hh'
      obtain ⟨_, _, _, _, hst'⟩ := id S'
      have hL7 := hL.exs hok hst' x7 (.inl (by simp))
      refine ⟨_, rfl, Or.inl ⟨rfl, _, sq_of hh7⟩, ?_⟩
      refine m_cons (m_tup (m_cons ⟨_, rfl, m_cons ⟨_, rfl, m_cons ((er_lst (K := K) (ds := [.t [], .t [.s "result"]]) (er_cons (er_tup er_nil (by simp)) (er_cons (er_tup (er_cons (ep_Rs ev_c) er_nil) (by simp)) er_nil)) (by simp)) H7 (Ex.refl _) _ ?_)⟩⟩))
      rintro v8 H8 e8 ⟨Ra, ur, rfl, hRa, h8, r8⟩
      refine m_draw rfl (by decide) (by decide) hn (S7.ex e8) fun g H9 hg x9 S9 => ?_
      obtain ⟨hRst, hRl⟩ := S7.nst hRa
      have r9 := (S7.ex e8).reps x9 r8
      obtain ⟨e, he⟩ : ∃ e, ([Da.t [], Da.t [.s "result"]])[g]? = some e := ⟨_, List.getElem?_eq_getElem (by simp; omega)⟩
      obtain ⟨u, hu, ru⟩ := r9.at_ he
      obtain ⟨res, hres, erl⟩ : ∃ res : List Str, res.length ≤ 1 ∧ e = .t (res.map Da.s) := by
        rcases List.mem_cons.mp (List.mem_of_getElem? he) with h | h
        · exact ⟨[], by simp, h⟩
        · exact ⟨["result"], by simp, List.mem_singleton.mp h⟩
      subst erl
      have hka9 : H9 Ka = some (.lst (ks.map fun b => V.str (ikind b))) := x9 _ _ (S'.nst hKa).1 (e8 _ _ h7)
      have hh9 := x9 _ _ hHst (e8 _ _ hh7)
      have hL9 := (hL7.ex8 e8).dr hok (S7.ex e8) x9
      refine ⟨Ra, ur, _, u, rfl, rfl, sq_of (x9 _ _ hRst h8), atI_nat hu, m_nil ⟨by show 3 ≤ sizeLine; rw [sizeLine_eq]; omega, fun tp htp => ?_⟩⟩
      have e10 : Ex H9 (upd H9 tp (.tup [.str nm, .ref Ka, u])) := Ex.new htp
      have t10 : upd H9 tp (.tup [.str nm, .ref Ka, u]) tp = some (.tup [.str nm, .ref Ka, u]) := upd_same
      have S10 := S9.ex e10
      generalize upd H9 tp (.tup [.str nm, .ref Ka, u]) = H10 at e10 t10 S10
      have hV : HdV K H10 (.ref tp) (nm, ks, res) := ⟨tp, Ka, u, rfl, t10, e10 _ _ hka9, ru.ex e10⟩
      have hh10 := e10 _ _ hh9
      have hnew : HdOk (nm, ks, res) := ⟨hks, hres⟩
      have hL11 : HdL K (upd H10 Hd (.lst (hv' ++ [.ref tp]))) (hv' ++ [.ref tp]) (hs ++ [(nm, ks, res)]) := by
        refine ⟨by rw [List.length_append, List.length_append, hvl]; rfl, fun k v h h1 h2 => ?_⟩
        have old : HdL K (upd H10 Hd (.lst (hv' ++ [.ref tp]))) hv' hs := (hL9.ex8 e10).exs hok hh10 exs_upd (.inr hL.refs)
        by_cases hk : k < hs.length
        · rw [List.getElem?_append_left (by omega)] at h1 h2
          exact old.2 k v h h1 h2
        · have hk2 : k = hs.length := by
            have := (List.getElem?_eq_some_iff.mp h2).1
            rw [List.length_append, List.length_singleton] at this
            omega
          subst hk2
          rw [List.getElem?_append_right (Nat.le_refl _), Nat.sub_self] at h2
          rw [← hvl, List.getElem?_append_right (Nat.le_refl _), Nat.sub_self] at h1
          cases h1
          cases h2
          exact hV.exs hnew hh10 exs_upd (.inr hL.refs)
      refine m_nil ⟨Hd, hv', .ref tp, rfl, rfl, hh10, sz_lt (by omega), hv' ++ [.ref tp], hs ++ [(nm, ks, res)], _, _, rfl, ?_, S10.upd_ hHst hHl, upd_same, hL11, fun h hh => ?_, ?_⟩
      · exact (((((x.trans x7).trans (Ex.s e8)).trans x9).trans (Ex.s e10))).mutD hHd
      · rcases List.mem_append.mp hh with hh | hh
        · exact hok h hh
        · rw [List.mem_singleton.mp hh]
          exact hnew
      · rw [List.map_append, hnm, take_succ_of hnm']
        rfl
    · obtain ⟨hv, hs, x3, x4, rfl, x, S', hh', hL, hok, hnm⟩ := p
      rw [List.length_map, List.take_length] at hnm
      have hsl : hs.length = 2 + r := by rw [← hzl, ← hnm, List.length_map]
      have hvl := hL.1
      -- core
      refine q_asgR (ef_nil K) fun Co uc0 H7 hCo e7 h7 r7 => ?_
      obtain ⟨hCst, hCl⟩ := S'.nst hCo
      have hHC : Hd ≠ Co := fun z => by rw [z, hCo] at hh'; cases hh'
      refine q_seq (s_forL (xs := hv) (g := gTup K 3 (gCons (gName 3) (gCons (gName 4) (gCons (gName 6) gNil)))) (ev_var rfl) (sq_of (e7 _ _ hh')) (fun i σ' H'' => ∃ us Cs x3 x4 x6 x7 x8 x9 x10 x11 x12, σ' = [some (.ref st), some (.ref Na), some (.ref Hd), x3, x4, some (.ref Co), x6, x7, x8, x9, x10, x11, x12] ∧ Exs st H' H'' ∧ StOk st l ns H'' ∧ H'' Hd = some (.lst hv) ∧ HdL K H'' hv hs ∧ H'' Co = some (.lst us) ∧ Reps K H'' us (Cs.map Prc.da) ∧ Cs.length = i ∧ ∀ (j : Nat) p h, Cs[j]? = some p → hs[j]? = some h → PrcOk hs h p)
        (fun H8 e8 => ⟨uc0, [], _, _, _, _, _, _, _, _, _, rfl, Ex.s (e7.trans e8), S'.ex (e7.trans e8), (e7.trans e8) _ _ hh', hL.ex8 (e7.trans e8), e8 _ _ h7, r7.ex e8, rfl, fun j p h hj => by cases hj⟩) (fun i σ' H'' _ p => ?_) (fun i v σ' H'' hv1 p => ?_) (fun σ' H'' p => ?_))
      · obtain ⟨_, _, _, _, _, _, _, _, _, _, _, _, _, _, h, _⟩ := p
        exact sq_of h
      · obtain ⟨us, Cs, x3, x4, x6, x7, x8, x9, x10, x11, x12, rfl, xx, S1, hh1, hL1, hc1, rc1, hcl, hP1⟩ := p
        have hil : i < hs.length := by have := (List.getElem?_eq_some_iff.mp hv1).1; omega
        obtain ⟨h, hh⟩ : ∃ h, hs[i]? = some h := ⟨_, List.getElem?_eq_getElem hil⟩
        have hhm := List.mem_of_getElem? hh
        have hHok := hok h hhm
        obtain ⟨t, ka, rv, rfl, ht, hka, hrv⟩ := hL1.2 i v h hv1 hh
        obtain ⟨nm, ks, res⟩ := h
        have ht : H'' t = some (.tup [.str nm, .ref ka, rv]) := ht
        have hka : H'' ka = some (.lst (ks.map fun b => V.str (ikind b))) := hka
        have hrv : Rep K H'' rv (.t (res.map Da.s)) := hrv
        have hkl : ks.length = 3 := hHok.1.length_eq
        have hkc : ks.count true = 2 := hHok.1.count_eq true
        have hrl : res.length ≤ 1 := hHok.2
        have hkst : ka ≠ st := fun z => by
          obtain ⟨_, _, _, _, h2⟩ := S1
          rw [z, h2] at hka
          injection hka with e
          injection e with e
          have := congrArg List.length e
          rw [List.length_map, hkl] at this
          cases this
        refine ⟨t, _, rfl, st_of ht, rfl, _, _, rfl, _, _, rfl, _, _, rfl, rfl, ?_⟩
        show tSeq _ _ _ [some (.ref st), some (.ref Na), some (.ref Hd), some (.str nm), some (.ref ka), some (.ref Co), some rv, x7, x8, x9, x10, x11, x12] H''
        -- own
        refine q_asgM (m_call (ea_cons (ev_var rfl) (ea_cons ev_c ea_nil)) fun H8 e8 => ⟨st, l, ns, 6, rfl, by decide, hn, S1.ex e8, fun Ow ws6 H9 hwl6 hwn6 hww6 hOw x9' S9 h9 => ?_⟩)
        obtain ⟨o0, o1, o2, o3, o4, o5, rfl⟩ : ∃ o0 o1 o2 o3 o4 o5, ws6 = [o0, o1, o2, o3, o4, o5] := by
          match ws6, hwl6 with
          | [o0, o1, o2, o3, o4, o5], _ => exact ⟨o0, o1, o2, o3, o4, o5, rfl⟩
        have y9 := (Ex.s (st := st) e8).trans x9'
        have ht9 := Exs.tups S1 y9 _ _ ht
        have hka9 := y9 _ _ hkst hka
        have hrv9 := S1.rep y9 hrv
        have hc9 := y9 _ _ hCst hc1
        have rc9 := S1.reps y9 rc1
        have hh9 := y9 _ _ hHst hh1
        have hL9 := hL1.dr hok S1 y9
        obtain ⟨hOst, hOl⟩ := (S1.ex e8).nst hOw
        -- spots, items
        refine q_asgL (xs := [.str o3, .str o4]) (el_lst (ea_cons (ev_ixL (i := 3) (ev_var rfl) ev_c h9 rfl) (ea_cons (ev_ixL (i := 4) (ev_var rfl) ev_c h9 rfl) ea_nil)) (by simp)) fun Sp H10 hSp e10 h10 => ?_
        refine q_asgR (ef_nil K) fun It ui0 H11 hIt e11 h11 r11 => ?_
        obtain ⟨hSst, hSl⟩ := S9.nst hSp
        have hIt9 := fresh_back e10 hIt
        obtain ⟨hIst, hIl⟩ := S9.nst hIt9
        have hSI : Sp ≠ It := fun z => by rw [z, hIt] at h10; cases h10
        have ne9 : ∀ {q : Addr} {o : HO}, H9 q = some o → q ≠ Sp ∧ q ≠ It := fun {q o} hq => ⟨fun z => (by rw [z, hSp] at hq; cases hq), fun z => (by rw [z, hIt9] at hq; cases hq)⟩
        have e911 := e10.trans e11
        refine q_seq (s_forL (xs := ks.map fun b => V.str (ikind b)) (g := gName 10) (ev_var rfl) (sq_of (e911 _ _ hka9)) (fun k σ' H12 => ∃ ui its rem x10, σ' = [some (.ref st), some (.ref Na), some (.ref Hd), some (.str nm), some (.ref ka), some (.ref Co), some rv, some (.ref Ow), some (.ref Sp), some (.ref It), x10, x11, x12] ∧ Ex H9 H12 ∧ H12 It = some (.lst ui) ∧ Reps K H12 ui (its.map itemDa) ∧ its.map (·.1) = ks.take k ∧ (∀ it : Bool × Str, it ∈ its → it.2 ∈ (if it.1 then [o3, o4, o5] else [o0, o1, o2])) ∧ H12 Sp = some (.lst (rem.map V.str)) ∧ (∀ z, z ∈ rem → z ∈ [o3, o4]) ∧ rem.length + (ks.take k).count true = 2)
          (fun H12 e12 => ⟨ui0, [], [o3, o4], _, rfl, e911.trans e12, e12 _ _ h11, r11.ex e12, rfl, (fun it hit => by cases hit), (e11.trans e12) _ _ h10, fun z hz => hz, rfl⟩) (fun k σ' H12 _ p => ?_) (fun k v σ' H12 hv2 p => ?_) (fun σ' H12 p => ?_))
        · obtain ⟨_, _, _, _, _, e, _⟩ := p
          exact sq_of (e _ _ hka9)
        · obtain ⟨ui, its, rem, x10, rfl, e, hi', ri', hks, hia, hs', hrem, hcnt⟩ := p
          rw [List.getElem?_map, Option.map_eq_some_iff] at hv2
          obtain ⟨kb, hkb, rfl⟩ := hv2
          have hkl3 : k < 3 := by have := (List.getElem?_eq_some_iff.mp hkb).1; omega
          have htk := take_succ_of hkb
          have hasl : its.length = k := by
            have := congrArg List.length hks
            rw [List.length_map, List.length_take] at this
            omega
          show tIfS _ _ _ _ [some (.ref st), some (.ref Na), some (.ref Hd), some (.str nm), some (.ref ka), some (.ref Co), some rv, some (.ref Ow), some (.ref Sp), some (.ref It), some (.str (ikind kb)), x11, x12] H12
          refine s_if (b := !kb) (et_is (et_strs (ev_var rfl) ev_c) (by cases kb <;> decide +kernel)) (fun hB H14 e14 => ?_) (fun hB H14 e14 => ?_)
          · have hkb' : kb = false := by simpa using hB
            subst hkb'
            refine s_appR (e14 _ _ hi') (ri'.ex e14) (by rw [List.length_map]; omega) (ev_var rfl) (er_tup (er_cons (ep_Rs ev_c) (er_cons (ep_Rs (ev_ixL (i := 0) (ev_var rfl) ev_c ((e.trans e14) _ _ h9) rfl)) er_nil)) (by simp)) fun H15 us' x15 i15 r15 => ?_
            refine ⟨us', its ++ [(false, o0)], rem, _, rfl, exs_base hIt9 (e.trans e14) x15, i15, by rw [List.map_append]; exact r15, ?_, fun it hit => ?_, x15 _ _ hSI (e14 _ _ hs'), hrem, ?_⟩
            · rw [List.map_append, hks, htk]
              rfl
            · rcases List.mem_append.mp hit with h | h
              · exact hia it h
              · rw [List.mem_singleton.mp h]
                simp
            · rw [htk, List.count_append]
              simpa using hcnt
          · have hkb' : kb = true := by simpa using hB
            subst hkb'
            have hc2 : (ks.take k).count true + 1 ≤ 2 := by
              rw [← hkc, ← List.count_singleton_self (a := true), ← List.count_append, ← htk]
              exact (List.take_sublist _ _).count_le _
            refine s_appPop (K := K) (ia := 9) (ip := 8) rfl rfl hSI (e14 _ _ hs') (by omega) (e14 _ _ hi') (by rw [ri'.len, List.length_map]; omega) fun z H15 us' hz keep rk i15 r15 s15 => ?_
            refine ⟨us', its ++ [(true, z)], rem.dropLast, _, rfl, fun q o hq => keep q o (ne9 hq).1 (ne9 hq).2 ((e.trans e14) _ _ hq), i15, by rw [List.map_append]; exact r15 _ (ri'.ex e14), ?_, fun it hit => ?_, s15, fun y hy => hrem y ((List.dropLast_sublist rem).subset hy), ?_⟩
            · rw [List.map_append, hks, htk]
              rfl
            · rcases List.mem_append.mp hit with h | h
              · exact hia it h
              · rw [List.mem_singleton.mp h]
                have := hrem z hz
                simp only [List.mem_cons, List.not_mem_nil, or_false] at this ⊢
                rcases this with rfl | rfl <;> simp
            · rw [List.length_dropLast, htk, List.count_append, List.count_singleton_self]
              omega
        · obtain ⟨ui, its, rem, x10, rfl, e, hi', ri', hks, hia, hs', hrem, hcnt⟩ := p
          rw [List.length_map, List.take_length] at hks
          have hitl : its.length = 3 := by rw [← hkl, ← hks, List.length_map]
          have hO12 := e _ _ h9
          refine q_asgP (P := fun v H => Rep K H v (.t [.t [.s "int", .s o1], .t [.s "int", .s o2], .t [.s "array", .s o5]])) (er_tup (er_cons (er_tup (er_cons (ep_Rs ev_c) (er_cons (ep_Rs (ev_ixL (K := K) (i := 1) (ev_var (i := 7) rfl) ev_c hO12 rfl)) er_nil)) (by simp)) (er_cons (er_tup (er_cons (ep_Rs ev_c) (er_cons (ep_Rs (ev_ixL (K := K) (i := 2) (ev_var (i := 7) rfl) ev_c hO12 rfl)) er_nil)) (by simp)) (er_cons (er_tup (er_cons (ep_Rs ev_c) (er_cons (ep_Rs (ev_ixL (K := K) (i := 5) (ev_var (i := 7) rfl) ev_c hO12 rfl)) er_nil)) (by simp)) er_nil))) (by simp)) fun pv13 H13 e13 rp13 => ?_
          have S13 := (S9.ex e).ex e13
          have e913 := e.trans e13
          have GG : GE K st l Ow Hd ns [o0, o1, o2, o3, o4, o5] hs H13 := ⟨S13, e913 _ _ h9, rfl, ⟨hv, e913 _ _ hh9, hL9.ex8 e913⟩, hok, ⟨by omega, by omega⟩, hOst, hHst, hn⟩
          refine q_asgM (m_call (ea_cons (ev_var rfl) (ea_cons (ev_var rfl) (ea_cons (ev_var rfl) (ea_cons ev_c ea_nil)))) fun H14 e14 => ⟨st, l, Ow, Hd, ns, _, hs, rfl, by decide, GG.ex e14, fun bv b H15 rb gb x15 S15 => ?_⟩)
          have S14 := S13.ex e14
          have hc15 := x15 _ _ hCst (e14 _ _ (e913 _ _ hc9))
          have rc15 := S14.reps x15 ((rc9.ex e913).ex e14)
          have hi15 := x15 _ _ hIst (e14 _ _ (e13 _ _ hi'))
          have ri15 := S14.reps x15 ((ri'.ex e13).ex e14)
          have rp15 := S14.rep x15 (rp13.ex e14)
          have rv15 := S14.rep x15 ((hrv9.ex e913).ex e14)
          let pr : Prc := ⟨nm, its, res, .t [.t [.s "int", .s o1], .t [.s "int", .s o2], .t [.s "array", .s o5]], b, [o0, o1, o2], [o3, o4, o5]⟩
          have hpr : EvP (tTup (tCons (tVar 3) (tCons (tCB (fun xs H Q => ∃ p ys, xs = [V.ref p] ∧ ((SqL K H p ys ∧ ∀ l, H l = none → Q (V.ref l) (upd H l (.tup ys))) ∨ (SqT K H p ys ∧ Q (V.ref p) H))) (tCons (tVar 9) tNil)) (tCons (tVar 6) (tCons (tVar 11) (tCons (tTup tNil) (tCons (tTup tNil) (tCons (tTup tNil) (tCons (tTup tNil) (tCons (tVar 12) tNil))))))))))
              [some (.ref st), some (.ref Na), some (.ref Hd), some (.str nm), some (.ref ka), some (.ref Co), some rv, some (.ref Ow), some (.ref Sp), some (.ref It), x10, some pv13, some bv] H15 (fun v H => Rep K H v pr.da) := by
            rw [prc_da]
            exact er_tup (er_cons (ep_Rs (ev_var rfl)) (er_cons (er_tupL (ep_lst (ev_var rfl) hi15 ri15)) (er_cons (ep_R (ev_var rfl) rv15) (er_cons (ep_R (ev_var rfl) rp15) (er_cons (er_tup er_nil (by simp)) (er_cons (er_tup er_nil (by simp)) (er_cons (er_tup er_nil (by simp)) (er_cons (er_tup er_nil (by simp)) (er_cons (ep_R (ev_var rfl) rb) er_nil))))))))) (by simp)
          refine s_appR hc15 rc15 (by rw [List.length_map]; omega) (ev_var rfl) hpr fun H16 us' x16 c16 r16 => ?_
          have y15 : Exs st H'' H15 := (y9.trans (Ex.s (e913.trans e14))).trans x15
          have hh15 := x15 _ _ hHst (e14 _ _ (e913 _ _ hh9))
          have hL15 := ((hL9.ex8 e913).ex8 e14).dr hok S14 x15
          refine ⟨us', Cs ++ [pr], _, _, _, _, _, _, _, _, _, rfl, exs_base8 hCo (xx.trans y15) x16, S15.exs_ hCst hCl x16, x16 _ _ hHC hh15, hL15.exs hok hc15 x16 (.inr fun u hu z ez => ?_), c16, by rw [List.map_append]; exact r16, by rw [List.length_append, hcl]; rfl, fun j p h hj hh2 => ?_⟩
          · subst ez
            obtain ⟨k, hk⟩ := List.getElem?_of_mem hu
            obtain ⟨dd, hdd, rdd⟩ := rc15.get hk
            rw [List.getElem?_map, Option.map_eq_some_iff] at hdd
            obtain ⟨pp, _, rfl⟩ := hdd
            rw [prc_da] at rdd
            unfold Rep at rdd
            obtain ⟨_, _, e, _⟩ := rdd
            cases e
          · by_cases hjl : j < Cs.length
            · rw [List.getElem?_append_left hjl] at hj
              exact hP1 j p h hj hh2
            · have hj2 : j = i := by
                have := (List.getElem?_eq_some_iff.mp hj).1
                rw [List.length_append, List.length_singleton] at this
                omega
              subst hj2
              rw [hh] at hh2
              cases hh2
              rw [List.getElem?_append_right (by omega), hcl, Nat.sub_self] at hj
              cases hj
              exact ⟨rfl, hks, gb.1, gb.2, hitl, hia, rfl, rfl, hwn6, hww6⟩
      · obtain ⟨us, Cs, x3, x4, x6, x7, x8, x9, x10, x11, x12, rfl, xx, S1, hh1, hL1, hc1, rc1, hcl, hP1⟩ := p
        have hC : OkC Cs := okC_of (by omega) (by omega) (by omega) (by rw [hnm]; exact hzs) (fun h hh => (hzw h.1 (by rw [← hnm]; exact List.mem_map_of_mem hh)).so) hP1
        exact s_retP (er_tupL (ep_lst (ev_var rfl) hc1 rc1)) fun v H8 e8 r8 => q v Cs H8 r8 hC (((x05.trans x).trans xx).trans (Ex.s e8)) (S1.ex e8)
end
end K88

set_option maxHeartbeats 4000000
namespace K88
open PySem L2 Evl
/-! ### the law -/
def spLaw (K : PySem.W.Frag) : Sp := fun vs H Q _ => ∃ (a : Addr) (ns : List Int), vs = [.ref a] ∧ SqL K H a (ns.map V.int) ∧ ns.length ≤ 63 ∧ ∀ H', Q (.bl true) H'
section
variable {K : PySem.W.Frag} {σ : L2.St} {H : Hp} {ta tb te : TE}
theorem ev_same {d : Da} (h1 : EvP ta σ H (fun v H => Rep K H v d)) (h2 : EvP tb σ H (fun v H => Rep K H v d)) (hd : DpD 3 d) : Ev (tCall (spSame K 3) [] E0 (tCons ta (tCons tb tNil))) σ H (.bl true) :=
  ev_callA (PA := fun vs H => Reps K H vs [d, d]) (er_cons h1 (er_cons h2 er_nil)) fun vs H3 e3 r3 Q' hQ E' => by
    obtain ⟨u1, u2, rfl, k1, k2⟩ := reps_two r3
    exact ⟨u1, u2, d, rfl, k1, k2, hd, hQ⟩
theorem dpd_td {n : Nat} {k : List Str} (h : k.length ≤ 100000) : DpD (n + 2) (td k) := ⟨by rw [List.length_map]; exact h, fun e he => by
  obtain ⟨x, _, rfl⟩ := List.mem_map.mp he
  trivial⟩
theorem dpd_di {n : Nat} {k : List Int} (h : k.length ≤ 100000) : DpD (n + 2) (di k) := ⟨by rw [List.length_map]; exact h, fun e he => by
  obtain ⟨x, _, rfl⟩ := List.mem_map.mp he
  trivial⟩
end
theorem nst_dep : ∀ (d : Nat) (b : List Stm) (nest k : List Int), k ∈ nst d b nest → k.length ≤ nest.length + d
  | 0, b, nest, k, h => by rw [nst] at h; cases h
  | d + 1, b, nest, k, h => by
    rw [nst] at h
    obtain ⟨s, _, h⟩ := List.mem_flatMap.mp h
    cases s with
    | whl t x p =>
      cases p with
      | none => cases h
      | some n =>
        rcases List.mem_cons.mp h with rfl | h
        · rw [List.length_append, List.length_singleton]; omega
        · have := nst_dep d x _ k h
          rw [List.length_append, List.length_singleton] at this
          omega
    | ite t x y =>
      rcases List.mem_append.mp h with h | h
      · have := nst_dep d x _ k h; omega
      · have := nst_dep d y _ k h; omega
    | pause p => rw [List.mem_singleton.mp h]; omega
    | call c as ts p =>
      have : k = nest := by simpa using h
      rw [this]; omega
    | set x e => cases h
    | push e x => cases h
    | store x e e2 => cases h
    | pop x y => cases h
section
variable {P : Program} {w : World} {K : PySem.W.Frag} {mg : Str → Option Value} {base : Heap}
theorem sc_law : FnScope ["script", "state", "core", "moves", "p", "due", "groups", "table", "group", "kind", "x"] ["script"] (defScope (topS 43)) := ⟨rfl, rfl, rfl, by decide +kernel, rfl, by decide +kernel, by decide +kernel⟩
theorem ok_law {f : Addr} {fd : FuncData} (F : FnP K "law" "law" (topS 43) f fd) (T : Bt mg) (h_law_start : Has P w K mg base "_law_start" ["script"] 1 (spStart K)) (h_law_core : Has P w K mg base "_law_core" ["state"] 11 (spCore K)) (h_law_all_moves : Has P w K mg base "_law_all_moves" ["core"] 6 (spAll K)) (h_law_same : Has P w K mg base "_law_same" ["x", "y"] 4 (spSame K 3))
    (h_moving_of : Has P w K mg base "moving_of" ["core", "name"] 7 (spMov K)) (h_nests_of : Has P w K mg base "nests_of" ["core", "name"] 6 (spNof K)) (h_law_nests : Has P w K mg base "_law_nests" ["body", "nest"] 4 (spLNst K 4)) (h_law_mark : Has P w K mg base "_law_mark" ["body", "point"] 4 (spNum K 4))
    (h_law_groups : Has P w K mg base "_law_groups" ["core", "pairs"] 1 (spLG K)) (h_law_reach : Has P w K mg base "_law_reach" ["core"] 6 (spRch K)) (h_groups_of : Has P w K mg base "groups_of" ["core"] 7 (spGrps K)) (h_law_ways : Has P w K mg base "_law_ways" ["core", "groups"] 6 (spLW K)) (h_ways_down : Has P w K mg base "ways_down" ["core", "group"] 9 (spWD K)) :
    FnOk P w K mg base CX0 12 f fd ["script"] (spLaw K) := by
  refine F.ok sc_law (fun vs H Q E h => ?_) (fun cdv A outer s H vs Q E hr h => ?_)
  · obtain ⟨a, ns, rfl, _⟩ := h
    rfl
  · obtain ⟨a, ns, rfl, hsc, hn, q⟩ := h
    refine ⟨_, PSs.nox
      (pss_cons (ps_set (i := 1) sc_law.nd rfl (Or.inl rfl) (pe_callH h_law_start (hr.mono (by decide)) (by rfl) (pa_cons (pv 0) pa_nil)))
      (pss_cons (ps_set (i := 2) sc_law.nd rfl (Or.inr rfl) (pe_callH h_law_core (hr.mono (by decide)) (by rfl) (pa_cons (pv 1) pa_nil)))
      (pss_cons (ps_set (i := 3) sc_law.nd rfl (Or.inr rfl) (pe_callH h_law_all_moves (hr.mono (by decide)) (by rfl) (pa_cons (pv 2) pa_nil)))
      (pss_cons (ps_for PassesOwn.never rfl (pi_tupK K rfl (pv 2)) (pg_name (i := 4) sc_law.nd rfl (Or.inr rfl)) (pss_cons (ps_set (i := 5) sc_law.nd rfl (Or.inl rfl) (pe_callTy (call_tuple_ofK K rfl) (by rfl) T.m_tuple (by decide +kernel) (pa_cons (pe_lc (own := [("kind", 9), ("x", 10)])  rfl sc_law.nd  (pi_tupK K rfl (pe_ix (ix_tupK K rfl) (pv 4) pe_int (fun _ _ => rfl))) (blkOk_by (own := [("kind", 9), ("x", 10)]) (N := ["script", "state", "core", "moves", "p", "due", "groups", "table", "group", "kind", "x"]) (sc := defScope (topS 43)) (by decide +kernel)) (fun _ _ _ _ _ => (pg_tupK K rfl (n := 2) rfl (pgs_cons (pg_name (i := 9) sc_law.nd rfl (Or.inl rfl)) (pgs_cons (pg_name (i := 10) sc_law.nd rfl (Or.inl rfl)) pgs_nil)))) (fun _ _ _ _ _ => (pts_one (pt_cmpR (op_in8 hr.units) (pe_tup (pa_cons (pe_ix (ix_tupK K rfl) (pv 4) pe_int (fun _ _ => rfl)) (pa_cons (pv 10) pa_nil))) (pv 3) rfl))) (fun _ _ _ _ _ => (pv 10))) pa_nil)))
      (pss_cons (ps_if (pt_not (pt_val (pe_callH h_law_same (hr.mono (by decide)) (by rfl) (pa_cons (pe_callH h_moving_of (hr.mono (by decide)) (by rfl) (pa_cons (pv 2) (pa_cons (pe_ix (ix_tupK K rfl) (pv 4) pe_int (fun _ _ => rfl)) pa_nil))) (pa_cons (pv 5) pa_nil))))) (pss_one (ps_ret pe_bl)) pss_nil)
      (pss_one (ps_if (pt_not (pt_val (pe_callH h_law_same (hr.mono (by decide)) (by rfl) (pa_cons (pe_callH h_nests_of (hr.mono (by decide)) (by rfl) (pa_cons (pv 2) (pa_cons (pe_ix (ix_tupK K rfl) (pv 4) pe_int (fun _ _ => rfl)) pa_nil))) (pa_cons (pe_callTy (call_tuple_ofK K rfl) (by rfl) T.m_tuple (by decide +kernel) (pa_cons (pe_op op_cat (pe_lst (pa_cons (pe_tup pa_nil) pa_nil)) (pe_callH h_law_nests (hr.mono (by decide)) (by rfl) (pa_cons (pe_ix (ix_tupK K rfl) (pe_callH h_law_mark (hr.mono (by decide)) (by rfl) (pa_cons (pe_ix (ix_tupK K rfl) (pv 4) pe_int (fun _ _ => rfl)) (pa_cons pe_int pa_nil))) pe_int (fun _ _ => rfl)) (pa_cons (pe_tup pa_nil) pa_nil)))) pa_nil)) pa_nil))))) (pss_one (ps_ret pe_bl)) pss_nil)))))
      (pss_cons (ps_set (i := 6) sc_law.nd rfl (Or.inl rfl) (pe_callH h_law_groups (hr.mono (by decide)) (by rfl) (pa_cons (pv 2) (pa_cons (pe_callH h_law_reach (hr.mono (by decide)) (by rfl) (pa_cons (pv 2) pa_nil)) pa_nil))))
      (pss_cons (ps_if (pt_not (pt_val (pe_callH h_law_same (hr.mono (by decide)) (by rfl) (pa_cons (pe_callH h_groups_of (hr.mono (by decide)) (by rfl) (pa_cons (pv 2) pa_nil)) (pa_cons (pe_callTy (call_tuple_ofK K rfl) (by rfl) T.m_tuple (by decide +kernel) (pa_cons (pv 6) pa_nil)) pa_nil))))) (pss_one (ps_ret pe_bl)) pss_nil)
      (pss_cons (ps_set (i := 7) sc_law.nd rfl (Or.inr rfl) (pe_callH h_law_ways (hr.mono (by decide)) (by rfl) (pa_cons (pv 2) (pa_cons (pv 6) pa_nil))))
      (pss_one (ps_ret (pe_callB (cr_allK K rfl rfl) (by rfl) T.m_all (by decide +kernel) (pa_cons (pe_lc (own := [("group", 8)])  rfl sc_law.nd  (pi_listK K rfl (pv 6)) (blkOk_by (own := [("group", 8)]) (N := ["script", "state", "core", "moves", "p", "due", "groups", "table", "group", "kind", "x"]) (sc := defScope (topS 43)) (by decide +kernel)) (fun _ _ _ _ _ => (pg_name (i := 8) sc_law.nd rfl (Or.inl rfl))) (fun _ _ _ _ _ => pts_nil) (fun _ _ _ _ _ => (pe_callH h_law_same (hr.mono (by decide)) (by rfl) (pa_cons (pe_callH h_ways_down (hr.mono (by decide)) (by rfl) (pa_cons (pv 2) (pa_cons (pv 8) pa_nil))) (pa_cons (pe_dget (hu_of hr) (pv 7) (pe_ix (ix_tupK K rfl) (pv 8) pe_int (fun _ _ => rfl)) (fun _ _ => rfl)) pa_nil))))) pa_nil))))))))))), ?_⟩
    -- the core
    refine q_asgM (m_call (ea_cons (ev_var rfl) ea_nil) fun H1 e1 => ⟨a, ns, rfl, ex_l e1 hsc, fun st l H2 hst e2 S2 => ?_⟩)
    refine q_asgM (m_call (ea_cons (ev_var rfl) ea_nil) fun H3 e3 => ⟨st, l, ns, rfl, by omega, S2.ex e3, fun cv C H4 hv0 hC x4 S4 => ?_⟩)
    have hC6 := hC.n6
    have hv := hv0
    unfold coreDa Rep at hv
    obtain ⟨ca, cus, rfl, hca, hcr⟩ := hv
    have hcul : cus.length = C.length := by rw [hcr.len, List.length_map]
    refine q_asgM (m_call (ea_cons (ev_var rfl) ea_nil) fun H5 e5 => ⟨_, C, rfl, hv0.ex e5, hC, fun Mv mus H6 mv hMv e6 h6 r6 hmv => ?_⟩)
    have e46 := e5.trans e6
    have r6' := r6
    rw [pdd_map] at r6'
    refine q_seq (s_forT (xs := cus) (g := gName 4) (ev_var rfl) (st_of (e46 _ _ hca)) (fun i σ' H' => ∃ x4 x5, σ' = [some (.ref a), some (.ref st), some (.ref ca), some (.ref Mv), x4, x5, none, none, none, none, none] ∧ Ex H6 H') (fun H7 e7 => ⟨_, _, rfl, e7⟩) (fun i σ' H' _ p => ?_) (fun i vp σ' H' hvp p => ?_) (fun σ' H' p => ?_))
    · obtain ⟨_, _, _, e⟩ := p
      exact st_of ((e46.trans e) _ _ hca)
    · obtain ⟨x4', x5, rfl, e7⟩ := p
      obtain ⟨d, hd, rd⟩ := hcr.get hvp
      rw [List.getElem?_map, Option.map_eq_some_iff] at hd
      obtain ⟨p, hp, rfl⟩ := hd
      have hpC := List.mem_of_getElem? hp
      have hP := hC.ok p hpC
      have e47 := e46.trans e7
      have rd0 := rd.ex e47
      rw [prc_da] at rd0
      have hcv := hv0.ex e47
      show tSeq _ _ _ [some (.ref a), some (.ref st), some (.ref ca), some (.ref Mv), some vp, x5, none, none, none, none, none] H'
      have hil := hP.il
      have hfl : (p.items.filter fun it => mvB C p.name it.2).length ≤ 3 := by rw [← hil]; exact List.length_filter_le _ _
      have hcomp := ef_lcNT (K := K) (σ := [some (.ref a), some (.ref st), some (.ref ca), some (.ref Mv), some vp, x5, none, none, none, none, none]) (H := H') (b := p.items) (f := fun it => mvB C p.name it.2) (e := fun it => Da.s it.2) (g0 := itemDa) (vs := [9, 10]) (tg := gTup K 2 (gCons (gName 9) (gCons (gName 10) gNil))) (tl := tOp (rIxT K) (tVar 4) (tC (.int 1)))
        (tt := tTest (tOp (rIn8 false) (tTup (tCons (tOp (rIxT K) (tVar 4) (tC (V.int 0))) (tCons (tVar 10) tNil))) (tVar 3))) (te := tVar 10) (ev_ixR (i := 1) (ev_var rfl) rd0 rfl) (by omega) (fun i it v' Hb hb eb rb => by
          unfold itemDa at rb
          obtain ⟨t, w1, w2, rfl, ht, k1, k2⟩ := rep_two rb
          rw [rep_str k1, rep_str k2] at ht
          have h8 := ev_in8 (K := K) (neg := false) (k := pd (p.name, it.2)) (ks := mv.map pd) (ta := tTup (tCons (tOp (rIxT K) (tVar 4) (tC (V.int 0))) (tCons (tVar 10) tNil))) (tb := tVar 3) (σ := ((wipe [some (.ref a), some (.ref st), some (.ref ca), some (.ref Mv), some vp, x5, none, none, none, none, none] [9, 10]).set 9 (some (.str (ikind it.1)))).set 10 (some (.str it.2))) (H := Hb) (er_tup (er_cons (ep_Rs (ev_ixRs (i := 0) (ev_var rfl) (rd0.ex eb) rfl)) (er_cons (ep_Rs (ev_var rfl)) er_nil)) (by simp [pd])) (ep_lst (ev_var rfl) ((e7.trans eb) _ _ h6) (r6'.ex (e7.trans eb)))
          rw [if_neg (by decide)] at h8
          refine ⟨_, tgt_pair ht, rfl, et_is (et_test h8) ?_, fun _ => ep_Rs (ev_var rfl)⟩
          rw [Bool.eq_iff_iff, decide_eq_true_eq, pd_mem, hmv p hpC, mvB_iff])
      refine q_asgP (er_tupL (ep_LR hcomp)) fun dv H8 e8 r8 => ?_
      refine q_when (b := false) (et_is (et_not (et_B (ev_same (d := .t ((p.items.filter fun it => mvB C p.name it.2).map fun it => .s it.2)) (ep_callA (PA := fun vs H => Reps K H vs [coreDa C, .s p.name]) (er_cons (ep_R (ev_var rfl) (hcv.ex e8)) (er_cons (ep_Rs (ev_ixRs (i := 0) (ev_var rfl) (rd0.ex e8) rfl)) er_nil)) fun vs H9 e9 r9 Q' hQ E' => ?_) (ep_R (ev_var rfl) r8) ⟨by rw [List.length_map]; omega, fun e he => ?_⟩))) rfl) (fun hB _ _ => by cases hB) (fun _ H9 e9 => ?_)
      · obtain ⟨u1, u2, rfl, k1, k2⟩ := reps_two r9
        rw [rep_str k2]
        exact ⟨u1, C, p, rfl, k1, hC, hpC, hQ⟩
      · obtain ⟨it, _, rfl⟩ := List.mem_map.mp he
        trivial
      have e89 := e8.trans e9
      have hnb := mark_nb 4 p.body 1 hP.wb
      have hnl := nst_len 4 _ [] hnb
      rw [fcap4] at hnl
      refine s_when (b := false) (et_is (et_not (et_B (ev_same (d := .t (([] :: nst 4 (mark 4 p.body 1).1 []).map di)) (ep_callA (PA := fun vs H => Reps K H vs [coreDa C, .s p.name]) (er_cons (ep_R (ev_var rfl) (hcv.ex e89)) (er_cons (ep_Rs (ev_ixRs (i := 0) (ev_var rfl) (rd0.ex e89) rfl)) er_nil)) fun vs H10 e10 r10 Q' hQ E' => ?_) (er_tupL (ep_LR (ef_catR (la := [di []]) (lb := (nst 4 (mark 4 p.body 1).1 []).map di) (ep_LR (er_lst (K := K) (er_cons (er_tup er_nil (by simp)) er_nil) (by simp))) (ep_LR (ef_callRA (PA := fun vs H => Reps K H vs [.t (das (mark 4 p.body 1).1), di []]) (er_cons (ep_ixP (i := 0) (ds := [.t (das (mark 4 p.body 1).1), .i (mark 4 p.body 1).2]) (ep_callA (PA := fun vs H => Reps K H vs [.t (das p.body), .i 1]) (er_cons (ev_ixR (i := 8) (ev_var rfl) (rd0.ex e89) rfl) (er_cons (ep_Ri ev_c) er_nil)) fun vs H10 e10 r10 Q' hQ E' => ?_) (fun _ _ => ev_c) rfl) (er_cons (er_tup er_nil (by simp)) er_nil)) fun vs H10 e10 r10 Q' hQ E' => ?_)) (by rw [List.length_map, List.length_singleton]; omega)))) ⟨by rw [List.length_map, List.length_cons]; omega, fun e he => ?_⟩))) rfl) (fun hB _ _ => by cases hB) (fun _ H10 e10 => ⟨_, _, rfl, (e7.trans e89).trans e10⟩)
      · obtain ⟨u1, u2, rfl, k1, k2⟩ := reps_two r10
        rw [rep_str k2]
        exact ⟨u1, C, p, rfl, k1, hC, hpC, hQ⟩
      · obtain ⟨u1, u2, rfl, k1, k2⟩ := reps_two r10
        rw [rep_intv k2]
        exact ⟨u1, p.body, 1, rfl, k1, hP.wb, by decide, hQ⟩
      · obtain ⟨u1, u2, rfl, k1, k2⟩ := reps_two r10
        exact ⟨u1, u2, _, [], rfl, k1, k2, by decide, hnb, hQ⟩
      · obtain ⟨k, hk, rfl⟩ := List.mem_map.mp he
        refine dpd_di ?_
        rcases List.mem_cons.mp hk with rfl | hk
        · simp
        · have := nst_dep _ _ _ _ hk
          simp at this
          omega
    · obtain ⟨x4', x5, rfl, e7⟩ := p
      have e47 := e46.trans e7
      have hcv := hv0.ex e47
      have htl := torder_len hC
      -- groups
      dsimp only
      refine q_asgM (m_callT ?_)
      refine m_cons ⟨_, rfl, ?_⟩
      refine m_cons (m_call (ea_cons (ev_var rfl) ea_nil) fun H8 e8 => ?_)
      refine ⟨_, C, rfl, hcv.ex e8, hC, fun Pa pus H9 ps hPa e9 h9 r9 hps hpl => ?_⟩
      refine m_nil ?_
      refine ⟨_, _, C, ps, rfl, hcv.ex (e8.trans e9), hC, ⟨Pa, pus, rfl, h9, r9⟩, hps, hpl, fun Ga gus H10 hGa e10 h10 r10 => ?_⟩
      have e710 := (e8.trans e9).trans e10
      have hcv10 := hcv.ex e710
      have hgd : DpD 3 (.t ((torder C).map td)) := ⟨by rw [List.length_map]; omega, fun e he => by
        obtain ⟨g, hg, rfl⟩ := List.mem_map.mp he
        obtain ⟨i, hi⟩ := List.getElem?_of_mem hg
        exact dpd_td (Nat.le_trans (torder_calls hC hi).2.1 (by decide))⟩
      refine q_when (b := false) (et_is (et_not (et_B (ev_same (d := .t ((torder C).map td)) (ep_callA (PA := fun vs H => Reps K H vs [coreDa C]) (er_cons (ep_R (ev_var rfl) hcv10) er_nil) fun vs H11 e11 r11 Q' hQ E' => ?_) (er_tupL (ep_lst (ev_var rfl) h10 r10)) hgd))) rfl) (fun hB _ _ => by cases hB) (fun _ H11 e11 => ?_)
      · obtain ⟨u1, rfl, k1⟩ := reps_one r11
        exact ⟨u1, C, rfl, k1, hC, hQ⟩
      have h11 := e11 _ _ h10
      have r11 := r10.ex e11
      refine q_asgM (m_call (ea_cons (ev_var rfl) (ea_cons (ev_var rfl) ea_nil)) fun H12 e12 => ⟨_, _, C, rfl, hcv10.ex (e11.trans e12), hC, ⟨Ga, gus, rfl, e12 _ _ h11, r11.ex e12⟩, fun tv H13 e13 ⟨M, hM, hT⟩ => ?_⟩)
      subst hM
      have e1013 := (e11.trans e12).trans e13
      have h13 := e1013 _ _ h10
      have r13 := r10.ex e1013
      have hgl : gus.length = (torder C).length := by rw [r13.len, List.length_map]
      refine s_ret (v := .bl true) (ev_is (ev_all (bs := List.replicate gus.length true) (ep_L (el_list (xs := gus) ((List.replicate gus.length true).map V.bl) (ev_var rfl) h13 (by simp) (by omega) (fun _ => rfl) fun i gv y hg hy => ?_))) (by simp)) fun H14 e14 => q H14
      have hyt : y = .bl true := by
        rw [List.getElem?_map, Option.map_eq_some_iff] at hy
        obtain ⟨b, hb, rfl⟩ := hy
        rw [List.eq_of_mem_replicate (List.mem_of_getElem? hb)]
      subst hyt
      obtain ⟨d, hd, rd⟩ := r13.get hg
      rw [List.getElem?_map, Option.map_eq_some_iff] at hd
      obtain ⟨g, hg2, rfl⟩ := hd
      obtain ⟨hgm, _⟩ := vo_at (torder_vo hC) hg2
      obtain ⟨hd0, rst, eg, hd0n, _⟩ := grp_hd hC hgm
      have ehd : g.headD "" = hd0 := by rw [eg]; rfl
      have rd2 : Rep K H13 gv (.t (g.map Da.s)) := rd
      rw [eg] at rd2
      refine ev_same (d := .i (wfin C hd0)) (ep_Ri (ev_callA (PA := fun vs H => Reps K H vs [coreDa C, td g]) (er_cons (ep_R (ev_var rfl) (hcv10.ex e1013)) (er_cons (ep_R (ev_var rfl) rd) er_nil)) fun vs H14 e14 r14 Q' hQ E' => ?_)) (ep_Ri (ev_intT (ev_var rfl) (ev_ixRs (i := 0) (ev_var rfl) rd2 rfl) hT (torder_all hC hd0n))) trivial
      obtain ⟨u1, u2, rfl, k1, k2⟩ := reps_two r14
      exact ⟨u1, u2, C, g, rfl, k1, hC, hgm, k2, by rw [ehd]; exact hQ⟩
end
end K88

set_option maxHeartbeats 0
namespace K88
open PySem PySem.Spec PyProof.Rows L2
/-! ### the head: the facts by names, the run -/
def d_statements_in : He.DefD := ⟨("statements_in", none), "statements_in", "statements_in", defArgs (topS 1), defBody (topS 1), defScope (topS 1), [], []⟩
def d_proc_named : He.DefD := ⟨("proc_named", none), "proc_named", "proc_named", defArgs (topS 2), defBody (topS 2), defScope (topS 2), [], []⟩
def d_assigned_in : He.DefD := ⟨("assigned_in", none), "assigned_in", "assigned_in", defArgs (topS 3), defBody (topS 3), defScope (topS 3), [], []⟩
def d_passed_on : He.DefD := ⟨("passed_on", none), "passed_on", "passed_on", defArgs (topS 4), defBody (topS 4), defScope (topS 4), [], []⟩
def d_moving_table : He.DefD := ⟨("moving_table", none), "moving_table", "moving_table", defArgs (topS 5), defBody (topS 5), defScope (topS 5), [], []⟩
def d_variable_of : He.DefD := ⟨("variable_of", none), "variable_of", "variable_of", defArgs (topS 6), defBody (topS 6), defScope (topS 6), [], []⟩
def d_moving_items : He.DefD := ⟨("moving_items", none), "moving_items", "moving_items", defArgs (topS 7), defBody (topS 7), defScope (topS 7), [], []⟩
def d_moving_of : He.DefD := ⟨("moving_of", none), "moving_of", "moving_of", defArgs (topS 8), defBody (topS 8), defScope (topS 8), [], []⟩
def d_calls_in : He.DefD := ⟨("calls_in", none), "calls_in", "calls_in", defArgs (topS 10), defBody (topS 10), defScope (topS 10), [], []⟩
def d_reached_from : He.DefD := ⟨("reached_from", none), "reached_from", "reached_from", defArgs (topS 11), defBody (topS 11), defScope (topS 11), [], []⟩
def d_group_of : He.DefD := ⟨("group_of", none), "group_of", "group_of", defArgs (topS 12), defBody (topS 12), defScope (topS 12), [], []⟩
def d_groups_of : He.DefD := ⟨("groups_of", none), "groups_of", "groups_of", defArgs (topS 13), defBody (topS 13), defScope (topS 13), [], []⟩
def d_ways_table : He.DefD := ⟨("ways_table", none), "ways_table", "ways_table", defArgs (topS 14), defBody (topS 14), defScope (topS 14), [], []⟩
def d_ways_down : He.DefD := ⟨("ways_down", none), "ways_down", "ways_down", defArgs (topS 15), defBody (topS 15), defScope (topS 15), [], []⟩
def d_numbered : He.DefD := ⟨("numbered", none), "numbered", "numbered", defArgs (topS 17), defBody (topS 17), defScope (topS 17), [], []⟩
def d_places_in : He.DefD := ⟨("places_in", none), "places_in", "places_in", defArgs (topS 18), defBody (topS 18), defScope (topS 18), [], []⟩
def d_nests_in : He.DefD := ⟨("nests_in", none), "nests_in", "nests_in", defArgs (topS 19), defBody (topS 19), defScope (topS 19), [], []⟩
def d_nests_of : He.DefD := ⟨("nests_of", none), "nests_of", "nests_of", defArgs (topS 21), defBody (topS 21), defScope (topS 21), [], []⟩
def d__law_draw : He.DefD := ⟨("_law_draw", none), "_law_draw", "_law_draw", defArgs (topS 23), defBody (topS 23), defScope (topS 23), [], []⟩
def d__law_one_of : He.DefD := ⟨("_law_one_of", none), "_law_one_of", "_law_one_of", defArgs (topS 24), defBody (topS 24), defScope (topS 24), [], []⟩
def d__law_shuffled : He.DefD := ⟨("_law_shuffled", none), "_law_shuffled", "_law_shuffled", defArgs (topS 25), defBody (topS 25), defScope (topS 25), [], []⟩
def d__law_some_statements : He.DefD := ⟨("_law_some_statements", none), "_law_some_statements", "_law_some_statements", defArgs (topS 26), defBody (topS 26), defScope (topS 26), [], []⟩
def d__law_one_statement : He.DefD := ⟨("_law_one_statement", none), "_law_one_statement", "_law_one_statement", defArgs (topS 27), defBody (topS 27), defScope (topS 27), [], []⟩
def d__law_words : He.DefD := ⟨("_law_words", none), "_law_words", "_law_words", defArgs (topS 28), defBody (topS 28), defScope (topS 28), [], []⟩
def d__law_core : He.DefD := ⟨("_law_core", none), "_law_core", "_law_core", defArgs (topS 29), defBody (topS 29), defScope (topS 29), [], []⟩
def d__law_statements : He.DefD := ⟨("_law_statements", none), "_law_statements", "_law_statements", defArgs (topS 30), defBody (topS 30), defScope (topS 30), [], []⟩
def d__law_callees : He.DefD := ⟨("_law_callees", none), "_law_callees", "_law_callees", defArgs (topS 31), defBody (topS 31), defScope (topS 31), [], []⟩
def d__law_changed_by : He.DefD := ⟨("_law_changed_by", none), "_law_changed_by", "_law_changed_by", defArgs (topS 32), defBody (topS 32), defScope (topS 32), [], []⟩
def d__law_handed_on : He.DefD := ⟨("_law_handed_on", none), "_law_handed_on", "_law_handed_on", defArgs (topS 33), defBody (topS 33), defScope (topS 33), [], []⟩
def d__law_all_moves : He.DefD := ⟨("_law_all_moves", none), "_law_all_moves", "_law_all_moves", defArgs (topS 34), defBody (topS 34), defScope (topS 34), [], []⟩
def d__law_nests : He.DefD := ⟨("_law_nests", none), "_law_nests", "_law_nests", defArgs (topS 35), defBody (topS 35), defScope (topS 35), [], []⟩
def d__law_reach : He.DefD := ⟨("_law_reach", none), "_law_reach", "_law_reach", defArgs (topS 36), defBody (topS 36), defScope (topS 36), [], []⟩
def d__law_groups : He.DefD := ⟨("_law_groups", none), "_law_groups", "_law_groups", defArgs (topS 37), defBody (topS 37), defScope (topS 37), [], []⟩
def d__law_ways : He.DefD := ⟨("_law_ways", none), "_law_ways", "_law_ways", defArgs (topS 38), defBody (topS 38), defScope (topS 38), [], []⟩
def d__law_start : He.DefD := ⟨("_law_start", none), "_law_start", "_law_start", defArgs (topS 39), defBody (topS 39), defScope (topS 39), [], []⟩
def d__law_is_int : He.DefD := ⟨("_law_is_int", none), "_law_is_int", "_law_is_int", defArgs (topS 40), defBody (topS 40), defScope (topS 40), [], []⟩
def d__law_same : He.DefD := ⟨("_law_same", none), "_law_same", "_law_same", defArgs (topS 41), defBody (topS 41), defScope (topS 41), [], []⟩
def d__law_mark : He.DefD := ⟨("_law_mark", none), "_law_mark", "_law_mark", defArgs (topS 42), defBody (topS 42), defScope (topS 42), [], []⟩
def d_law : He.DefD := ⟨("law", none), "law", "law", defArgs (topS 43), defBody (topS 43), defScope (topS 43), [], []⟩
def hdFn : List He.DefD := [d_statements_in, d_proc_named, d_assigned_in, d_passed_on, d_moving_table, d_variable_of, d_moving_items, d_moving_of, d_calls_in, d_reached_from, d_group_of, d_groups_of, d_ways_table, d_ways_down, d_numbered, d_places_in, d_nests_in, d_nests_of, d__law_draw, d__law_one_of, d__law_shuffled, d__law_some_statements, d__law_one_statement, d__law_words, d__law_core, d__law_statements, d__law_callees, d__law_changed_by, d__law_handed_on, d__law_all_moves, d__law_nests, d__law_reach, d__law_groups, d__law_ways, d__law_start, d__law_is_int, d__law_same, d__law_mark, d_law]
def hdFa : List He.Fa := [.glo "statements_in", .glo "proc_named", .glo "assigned_in", .glo "passed_on", .glo "moving_table", .glo "variable_of", .glo "moving_items", .glo "moving_of", .glo "calls_in", .glo "reached_from", .glo "group_of", .glo "groups_of", .glo "ways_table", .glo "ways_down", .glo "numbered", .glo "places_in", .glo "nests_in", .glo "nests_of", .glo "_law_draw", .glo "_law_one_of", .glo "_law_shuffled", .glo "_law_some_statements", .glo "_law_one_statement", .glo "_law_words", .glo "_law_core", .glo "_law_statements", .glo "_law_callees", .glo "_law_changed_by", .glo "_law_handed_on", .glo "_law_all_moves"] ++ [.glo "_law_nests", .glo "_law_reach", .glo "_law_groups", .glo "_law_ways", .glo "_law_start", .glo "_law_is_int", .glo "_law_same", .glo "_law_mark", .glo "law", .free "len", .free "sum", .free "zip", .free "all", .free "any", .free "abs", .free "max", .free "int", .free "bool", .free "str", .free "tuple", .free "list", .free "range", .free "enumerate", .free "isinstance", .free "sorted"]
def hdEx (K : PySem.W.Frag) : Bool := true
abbrev hdR : PySem.W.OpenRow := PySem.W.OpenLaw.row PySem.Challenge.rw_differwithin_k88_groups_nests_and_moving
abbrev hdHk : PySem.W.Hook := He.hookX 5 hdFa hdFn [] [] hdEx
def hdOb (s : PySem.W.SharedT) : He.AlX := He.obsX 5 hdFa hdFn [] [] hdEx (HandSHeadRun.getT s)
theorem hdOb_eq (s : PySem.W.SharedT) : hdOb s = hdHk.obs s.abs := He.obsX_eq (HandSHeadRun.getT_eq s)
def hdLoose : List PySem.Str := (["statements_in", "proc_named", "assigned_in", "passed_on", "moving_table", "variable_of", "moving_items", "moving_of", "calls_in", "reached_from", "group_of", "groups_of", "ways_table", "ways_down", "numbered", "places_in", "nests_in", "nests_of", "_law_draw", "_law_one_of", "_law_shuffled", "_law_some_statements", "_law_one_statement", "_law_words", "_law_core", "_law_statements", "_law_callees", "_law_changed_by", "_law_handed_on", "_law_all_moves"] : List PySem.Str) ++ (["_law_nests", "_law_reach", "_law_groups", "_law_ways", "_law_start", "_law_is_int", "_law_same", "_law_mark"] : List PySem.Str)
theorem hdRun (w : World) : HandSHeadRun.RunEq hdR (PySem.W.view hdR.prog [43]) hdHk hdOb 6000 hdLoose w := by
  intro os
  kernel_rfl
end K88

set_option maxHeartbeats 0
namespace K88
open PySem PySem.Spec PyProof.Rows L2
/-! ### the head: the chain of promises -/
section
variable {P : Program} {w : World} {K : PySem.W.Frag} {mg : Str → Option Value} {base h : Heap}
theorem hd_stms {f f1 : Addr} {fd fd1 : FuncData} (F : FnP K "_law_some_statements" "_law_some_statements" (topS 26) f fd) (hm : mg "_law_some_statements" = some (.ref f)) (F1 : FnP K "_law_one_statement" "_law_one_statement" (topS 27) f1 fd1) (hm1 : mg "_law_one_statement" = some (.ref f1)) (T : Bt mg)
    (h_law_draw : Has P w K mg base "_law_draw" ["state", "most"] 1 spDraw) (h_law_one_of : Has P w K mg base "_law_one_of" ["state", "items"] 2 spOne) (h_law_shuffled : Has P w K mg base "_law_shuffled" ["state", "items"] 2 spShuf) :
    ∀ n, FnOk P w K mg base CX0 (2 + 2 * n) f fd ["state", "own", "heads", "depth"] (spSo K n)
  | 0 => fn_false fun _ _ _ _ h => h
  | n + 1 => by
    have b : Binds K fd ["state", "own", "heads", "depth"] [] := F.bindsN fun _ _ _ _ _ _ us hl => match us, hl with | [_, _, _, _], _ => rfl
    have b1 : Binds K fd1 ["state", "own", "heads", "depth"] [] := F1.bindsN fun _ _ _ _ _ _ us hl => match us, hl with | [_, _, _, _], _ => rfl
    have z1 := ok_law_one_statement (d := n) F1 T h_law_draw h_law_one_of h_law_shuffled ⟨⟨f, fd, hm, F.kp, b, hd_stms F hm F1 hm1 T h_law_draw h_law_one_of h_law_shuffled n⟩⟩
    have e1 : 2 + 2 * n + 1 = 3 + 2 * n := by omega
    rw [e1] at z1
    have z := ok_law_some_statements (d := n) F T h_law_draw ⟨⟨f1, fd1, hm1, F1.kp, b1, z1⟩⟩
    have e : 2 + 2 * (n + 1) = 3 + 2 * n + 1 := by omega
    rw [e]
    exact z
theorem hd_facts {f : Addr} (X : K.In h) (G : h.Ns mainGlobals mg) (hfa : mg ("law" : Str) = some (.ref f)) (c : He.SaysD hdFa hdFn K) (ex : hdEx K = true) :
    ∃ fd : FuncData, (∀ (s : Shared) (v : Value), BindsTo s fd ⟨[v], []⟩ [("script", v)]) ∧ ∀ base : Heap, K.In base → base.Ns mainGlobals mg → FnOk P w K mg base CX0 12 f fd ["script"] (spLaw K) := by
  obtain ⟨fd_statements_in, F_statements_in⟩ := c.def_ 0 (d := d_statements_in) rfl
  obtain ⟨fd_proc_named, F_proc_named⟩ := c.def_ 1 (d := d_proc_named) rfl
  obtain ⟨fd_assigned_in, F_assigned_in⟩ := c.def_ 2 (d := d_assigned_in) rfl
  obtain ⟨fd_passed_on, F_passed_on⟩ := c.def_ 3 (d := d_passed_on) rfl
  obtain ⟨fd_moving_table, F_moving_table⟩ := c.def_ 4 (d := d_moving_table) rfl
  obtain ⟨fd_variable_of, F_variable_of⟩ := c.def_ 5 (d := d_variable_of) rfl
  obtain ⟨fd_moving_items, F_moving_items⟩ := c.def_ 6 (d := d_moving_items) rfl
  obtain ⟨fd_moving_of, F_moving_of⟩ := c.def_ 7 (d := d_moving_of) rfl
  obtain ⟨fd_calls_in, F_calls_in⟩ := c.def_ 8 (d := d_calls_in) rfl
  obtain ⟨fd_reached_from, F_reached_from⟩ := c.def_ 9 (d := d_reached_from) rfl
  obtain ⟨fd_group_of, F_group_of⟩ := c.def_ 10 (d := d_group_of) rfl
  obtain ⟨fd_groups_of, F_groups_of⟩ := c.def_ 11 (d := d_groups_of) rfl
  obtain ⟨fd_ways_table, F_ways_table⟩ := c.def_ 12 (d := d_ways_table) rfl
  obtain ⟨fd_ways_down, F_ways_down⟩ := c.def_ 13 (d := d_ways_down) rfl
  obtain ⟨fd_numbered, F_numbered⟩ := c.def_ 14 (d := d_numbered) rfl
  obtain ⟨fd_places_in, F_places_in⟩ := c.def_ 15 (d := d_places_in) rfl
  obtain ⟨fd_nests_in, F_nests_in⟩ := c.def_ 16 (d := d_nests_in) rfl
  obtain ⟨fd_nests_of, F_nests_of⟩ := c.def_ 17 (d := d_nests_of) rfl
  obtain ⟨fd_law_draw, F_law_draw⟩ := c.def_ 18 (d := d__law_draw) rfl
  obtain ⟨fd_law_one_of, F_law_one_of⟩ := c.def_ 19 (d := d__law_one_of) rfl
  obtain ⟨fd_law_shuffled, F_law_shuffled⟩ := c.def_ 20 (d := d__law_shuffled) rfl
  obtain ⟨fd_law_some_statements, F_law_some_statements⟩ := c.def_ 21 (d := d__law_some_statements) rfl
  obtain ⟨fd_law_one_statement, F_law_one_statement⟩ := c.def_ 22 (d := d__law_one_statement) rfl
  obtain ⟨fd_law_words, F_law_words⟩ := c.def_ 23 (d := d__law_words) rfl
  obtain ⟨fd_law_core, F_law_core⟩ := c.def_ 24 (d := d__law_core) rfl
  obtain ⟨fd_law_statements, F_law_statements⟩ := c.def_ 25 (d := d__law_statements) rfl
  obtain ⟨fd_law_callees, F_law_callees⟩ := c.def_ 26 (d := d__law_callees) rfl
  obtain ⟨fd_law_changed_by, F_law_changed_by⟩ := c.def_ 27 (d := d__law_changed_by) rfl
  obtain ⟨fd_law_handed_on, F_law_handed_on⟩ := c.def_ 28 (d := d__law_handed_on) rfl
  obtain ⟨fd_law_all_moves, F_law_all_moves⟩ := c.def_ 29 (d := d__law_all_moves) rfl
  obtain ⟨fd_law_nests, F_law_nests⟩ := c.def_ 30 (d := d__law_nests) rfl
  obtain ⟨fd_law_reach, F_law_reach⟩ := c.def_ 31 (d := d__law_reach) rfl
  obtain ⟨fd_law_groups, F_law_groups⟩ := c.def_ 32 (d := d__law_groups) rfl
  obtain ⟨fd_law_ways, F_law_ways⟩ := c.def_ 33 (d := d__law_ways) rfl
  obtain ⟨fd_law_start, F_law_start⟩ := c.def_ 34 (d := d__law_start) rfl
  obtain ⟨fd_law_is_int, F_law_is_int⟩ := c.def_ 35 (d := d__law_is_int) rfl
  obtain ⟨fd_law_same, F_law_same⟩ := c.def_ 36 (d := d__law_same) rfl
  obtain ⟨fd_law_mark, F_law_mark⟩ := c.def_ 37 (d := d__law_mark) rfl
  obtain ⟨fd_law, F_law⟩ := c.def_ 38 (d := d_law) rfl
  have T : Bt mg := ⟨He.free_ok X G (c.fact 39 (f := .free "len") rfl), He.free_ok X G (c.fact 40 (f := .free "sum") rfl), He.free_ok X G (c.fact 41 (f := .free "zip") rfl), He.free_ok X G (c.fact 42 (f := .free "all") rfl), He.free_ok X G (c.fact 43 (f := .free "any") rfl), He.free_ok X G (c.fact 44 (f := .free "abs") rfl), He.free_ok X G (c.fact 45 (f := .free "max") rfl), He.free_ok X G (c.fact 46 (f := .free "int") rfl), He.free_ok X G (c.fact 47 (f := .free "bool") rfl), He.free_ok X G (c.fact 48 (f := .free "str") rfl), He.free_ok X G (c.fact 49 (f := .free "tuple") rfl), He.free_ok X G (c.fact 50 (f := .free "list") rfl), He.free_ok X G (c.fact 51 (f := .free "range") rfl), He.free_ok X G (c.fact 52 (f := .free "enumerate") rfl), He.free_ok X G (c.fact 53 (f := .free "isinstance") rfl), He.free_ok X G (c.fact 54 (f := .free "sorted") rfl)⟩
  have e := hfa.symm.trans (He.glo_ok X G (c.fact 38 (f := .glo "law") rfl))
  cases e
  have b := FunD.bindsA (ps := ["script"]) F_law fun _ _ _ _ _ _ us hl => match us, hl with | [_], _ => rfl
  refine ⟨fd_law, fun s v => b s [v] rfl, fun base _ _ => ?_⟩
  have h_law_start : Has P w K mg base "_law_start" ["script"] 1 (spStart K) := ⟨⟨_, _, He.glo_ok X G (c.fact 34 (f := .glo "_law_start") rfl), F_law_start.kp, F_law_start.bindsN fun _ _ _ _ _ _ us hl => match us, hl with | [_], _ => rfl, ok_law_start F_law_start T⟩⟩
  have h_law_draw : Has P w K mg base "_law_draw" ["state", "most"] 1 spDraw := ⟨⟨_, _, He.glo_ok X G (c.fact 18 (f := .glo "_law_draw") rfl), F_law_draw.kp, F_law_draw.bindsN fun _ _ _ _ _ _ us hl => match us, hl with | [_, _], _ => rfl, ok_law_draw F_law_draw T⟩⟩
  have h_law_words : Has P w K mg base "_law_words" ["state", "many"] 2 spWords := ⟨⟨_, _, He.glo_ok X G (c.fact 23 (f := .glo "_law_words") rfl), F_law_words.kp, F_law_words.bindsN fun _ _ _ _ _ _ us hl => match us, hl with | [_, _], _ => rfl, ok_law_words F_law_words T h_law_draw⟩⟩
  have h_law_shuffled : Has P w K mg base "_law_shuffled" ["state", "items"] 2 spShuf := ⟨⟨_, _, He.glo_ok X G (c.fact 20 (f := .glo "_law_shuffled") rfl), F_law_shuffled.kp, F_law_shuffled.bindsN fun _ _ _ _ _ _ us hl => match us, hl with | [_, _], _ => rfl, ok_law_shuffled F_law_shuffled T h_law_draw⟩⟩
  have h_law_one_of : Has P w K mg base "_law_one_of" ["state", "items"] 2 spOne := ⟨⟨_, _, He.glo_ok X G (c.fact 19 (f := .glo "_law_one_of") rfl), F_law_one_of.kp, F_law_one_of.bindsN fun _ _ _ _ _ _ us hl => match us, hl with | [_, _], _ => rfl, ok_law_one_of F_law_one_of T h_law_draw⟩⟩
  have h_law_some_statements : Has P w K mg base "_law_some_statements" ["state", "own", "heads", "depth"] 10 (spSo K 4) := ⟨⟨_, _, He.glo_ok X G (c.fact 21 (f := .glo "_law_some_statements") rfl), F_law_some_statements.kp, F_law_some_statements.bindsN fun _ _ _ _ _ _ us hl => match us, hl with | [_, _, _, _], _ => rfl, hd_stms F_law_some_statements (He.glo_ok X G (c.fact 21 (f := .glo "_law_some_statements") rfl)) F_law_one_statement (He.glo_ok X G (c.fact 22 (f := .glo "_law_one_statement") rfl)) T h_law_draw h_law_one_of h_law_shuffled 4⟩⟩
  have h_law_core : Has P w K mg base "_law_core" ["state"] 11 (spCore K) := ⟨⟨_, _, He.glo_ok X G (c.fact 24 (f := .glo "_law_core") rfl), F_law_core.kp, F_law_core.bindsN fun _ _ _ _ _ _ us hl => match us, hl with | [_], _ => rfl, ok_law_core F_law_core T h_law_draw h_law_words h_law_shuffled h_law_some_statements⟩⟩
  have h_law_statements : Has P w K mg base "_law_statements" ["body"] 4 (spStmts K 4) := ⟨⟨_, _, He.glo_ok X G (c.fact 25 (f := .glo "_law_statements") rfl), F_law_statements.kp, (F_law_statements.bindsN fun _ _ _ _ _ _ us hl => match us, hl with | [_], _ => rfl), fn_chain (k := 0) (sp := spStmts K) (He.glo_ok X G (c.fact 25 (f := .glo "_law_statements") rfl)) F_law_statements.kp (F_law_statements.bindsN fun _ _ _ _ _ _ us hl => match us, hl with | [_], _ => rfl) (fun _ _ _ _ h => by obtain ⟨_, _, _, _, hw, _⟩ := h; exact hw) (fun d hh => ok_law_statements (d := d) F_law_statements T hh) 4⟩⟩
  have h_law_changed_by : Has P w K mg base "_law_changed_by" ["p"] 5 (fun vs H Q _ => ∃ (v : V) (p : Prc), vs = [v] ∧ Rep K H v p.da ∧ Wb 4 p.body ∧ RetLR K (((flat 4 p.body).flatMap chg).map Da.s) H Q) := ⟨⟨_, _, He.glo_ok X G (c.fact 27 (f := .glo "_law_changed_by") rfl), F_law_changed_by.kp, F_law_changed_by.bindsN fun _ _ _ _ _ _ us hl => match us, hl with | [_], _ => rfl, ok_law_changed_by F_law_changed_by T h_law_statements⟩⟩
  have h_law_handed_on : Has P w K mg base "_law_handed_on" ["core", "moves"] 5 (spHon K) := ⟨⟨_, _, He.glo_ok X G (c.fact 28 (f := .glo "_law_handed_on") rfl), F_law_handed_on.kp, F_law_handed_on.bindsN fun _ _ _ _ _ _ us hl => match us, hl with | [_, _], _ => rfl, ok_law_handed_on F_law_handed_on T h_law_statements⟩⟩
  have h_law_all_moves : Has P w K mg base "_law_all_moves" ["core"] 6 (spAll K) := ⟨⟨_, _, He.glo_ok X G (c.fact 29 (f := .glo "_law_all_moves") rfl), F_law_all_moves.kp, F_law_all_moves.bindsN fun _ _ _ _ _ _ us hl => match us, hl with | [_], _ => rfl, ok_law_all_moves F_law_all_moves T h_law_changed_by h_law_handed_on⟩⟩
  have h_law_is_int : Has P w K mg base "_law_is_int" ["x"] 1 (spIsI K) := ⟨⟨_, _, He.glo_ok X G (c.fact 35 (f := .glo "_law_is_int") rfl), F_law_is_int.kp, F_law_is_int.bindsN fun _ _ _ _ _ _ us hl => match us, hl with | [_], _ => rfl, ok_law_is_int F_law_is_int T⟩⟩
  have h_law_same : Has P w K mg base "_law_same" ["x", "y"] 4 (spSame K 3) := ⟨⟨_, _, He.glo_ok X G (c.fact 36 (f := .glo "_law_same") rfl), F_law_same.kp, (F_law_same.bindsN fun _ _ _ _ _ _ us hl => match us, hl with | [_, _], _ => rfl), fn_chain (k := 1) (sp := spSame K) (He.glo_ok X G (c.fact 36 (f := .glo "_law_same") rfl)) F_law_same.kp (F_law_same.bindsN fun _ _ _ _ _ _ us hl => match us, hl with | [_, _], _ => rfl) (fun _ _ _ _ h => by obtain ⟨_, _, _, _, _, _, hw, _⟩ := h; exact hw) (fun d hh => ok_law_same (d := d) F_law_same T h_law_is_int hh) 3⟩⟩
  have h_proc_named : Has P w K mg base "proc_named" ["core", "name"] 1 (spProc K) := ⟨⟨_, _, He.glo_ok X G (c.fact 1 (f := .glo "proc_named") rfl), F_proc_named.kp, F_proc_named.bindsN fun _ _ _ _ _ _ us hl => match us, hl with | [_, _], _ => rfl, ok_proc_named F_proc_named T⟩⟩
  have h_statements_in : Has P w K mg base "statements_in" ["body"] 4 (spStmts K 4) := ⟨⟨_, _, He.glo_ok X G (c.fact 0 (f := .glo "statements_in") rfl), F_statements_in.kp, (F_statements_in.bindsN fun _ _ _ _ _ _ us hl => match us, hl with | [_], _ => rfl), fn_chain (k := 0) (sp := spStmts K) (He.glo_ok X G (c.fact 0 (f := .glo "statements_in") rfl)) F_statements_in.kp (F_statements_in.bindsN fun _ _ _ _ _ _ us hl => match us, hl with | [_], _ => rfl) (fun _ _ _ _ h => by obtain ⟨_, _, _, _, hw, _⟩ := h; exact hw) (fun d hh => ok_statements_in (d := d) F_statements_in T hh) 4⟩⟩
  have h_assigned_in : Has P w K mg base "assigned_in" ["proc"] 5 (spAsg K) := ⟨⟨_, _, He.glo_ok X G (c.fact 2 (f := .glo "assigned_in") rfl), F_assigned_in.kp, F_assigned_in.bindsN fun _ _ _ _ _ _ us hl => match us, hl with | [_], _ => rfl, ok_assigned_in F_assigned_in T h_statements_in⟩⟩
  have h_passed_on : Has P w K mg base "passed_on" ["core", "moving", "proc"] 5 (spPassed K) := ⟨⟨_, _, He.glo_ok X G (c.fact 3 (f := .glo "passed_on") rfl), F_passed_on.kp, F_passed_on.bindsN fun _ _ _ _ _ _ us hl => match us, hl with | [_, _, _], _ => rfl, ok_passed_on F_passed_on T h_statements_in h_proc_named⟩⟩
  have h_moving_table : Has P w K mg base "moving_table" ["core"] 6 (spMTab K) := ⟨⟨_, _, He.glo_ok X G (c.fact 4 (f := .glo "moving_table") rfl), F_moving_table.kp, F_moving_table.bindsN fun _ _ _ _ _ _ us hl => match us, hl with | [_], _ => rfl, ok_moving_table F_moving_table T h_assigned_in h_passed_on⟩⟩
  have h_variable_of : Has P w K mg base "variable_of" ["item"] 1 (spVar K) := ⟨⟨_, _, He.glo_ok X G (c.fact 5 (f := .glo "variable_of") rfl), F_variable_of.kp, F_variable_of.bindsN fun _ _ _ _ _ _ us hl => match us, hl with | [_], _ => rfl, ok_variable_of F_variable_of T⟩⟩
  have h_moving_items : Has P w K mg base "moving_items" ["proc", "moving"] 2 (spItems K) := ⟨⟨_, _, He.glo_ok X G (c.fact 6 (f := .glo "moving_items") rfl), F_moving_items.kp, F_moving_items.bindsN fun _ _ _ _ _ _ us hl => match us, hl with | [_, _], _ => rfl, ok_moving_items F_moving_items T h_variable_of⟩⟩
  have h_moving_of : Has P w K mg base "moving_of" ["core", "name"] 7 (spMov K) := ⟨⟨_, _, He.glo_ok X G (c.fact 7 (f := .glo "moving_of") rfl), F_moving_of.kp, F_moving_of.bindsN fun _ _ _ _ _ _ us hl => match us, hl with | [_, _], _ => rfl, ok_moving_of F_moving_of T h_proc_named h_moving_table h_moving_items⟩⟩
  have h_places_in : Has P w K mg base "places_in" ["body", "rest", "nest"] 4 (spPlc K 4) := ⟨⟨_, _, He.glo_ok X G (c.fact 15 (f := .glo "places_in") rfl), F_places_in.kp, (F_places_in.bindsN fun _ _ _ _ _ _ us hl => match us, hl with | [_, _, _], _ => rfl), fn_chain (k := 0) (sp := spPlc K) (He.glo_ok X G (c.fact 15 (f := .glo "places_in") rfl)) F_places_in.kp (F_places_in.bindsN fun _ _ _ _ _ _ us hl => match us, hl with | [_, _, _], _ => rfl) (fun _ _ _ _ h => by obtain ⟨_, _, _, _, _, _, _, _, _, _, _, hw, _⟩ := h; exact hw) (fun d hh => ok_places_in (d := d) F_places_in T hh) 4⟩⟩
  have h_nests_in : Has P w K mg base "nests_in" ["body"] 5 (spNin K) := ⟨⟨_, _, He.glo_ok X G (c.fact 16 (f := .glo "nests_in") rfl), F_nests_in.kp, F_nests_in.bindsN fun _ _ _ _ _ _ us hl => match us, hl with | [_], _ => rfl, ok_nests_in F_nests_in T h_places_in⟩⟩
  have h_numbered : Has P w K mg base "numbered" ["body", "first"] 4 (spNum K 4) := ⟨⟨_, _, He.glo_ok X G (c.fact 14 (f := .glo "numbered") rfl), F_numbered.kp, (F_numbered.bindsN fun _ _ _ _ _ _ us hl => match us, hl with | [_, _], _ => rfl), fn_chain (k := 0) (sp := spNum K) (He.glo_ok X G (c.fact 14 (f := .glo "numbered") rfl)) F_numbered.kp (F_numbered.bindsN fun _ _ _ _ _ _ us hl => match us, hl with | [_, _], _ => rfl) (fun _ _ _ _ h => by obtain ⟨_, _, _, _, _, hw, _⟩ := h; exact hw) (fun d hh => ok_numbered (d := d) F_numbered T hh) 4⟩⟩
  have h_nests_of : Has P w K mg base "nests_of" ["core", "name"] 6 (spNof K) := ⟨⟨_, _, He.glo_ok X G (c.fact 17 (f := .glo "nests_of") rfl), F_nests_of.kp, F_nests_of.bindsN fun _ _ _ _ _ _ us hl => match us, hl with | [_, _], _ => rfl, ok_nests_of F_nests_of T h_nests_in h_numbered h_proc_named⟩⟩
  have h_law_nests : Has P w K mg base "_law_nests" ["body", "nest"] 4 (spLNst K 4) := ⟨⟨_, _, He.glo_ok X G (c.fact 30 (f := .glo "_law_nests") rfl), F_law_nests.kp, (F_law_nests.bindsN fun _ _ _ _ _ _ us hl => match us, hl with | [_, _], _ => rfl), fn_chain (k := 0) (sp := spLNst K) (He.glo_ok X G (c.fact 30 (f := .glo "_law_nests") rfl)) F_law_nests.kp (F_law_nests.bindsN fun _ _ _ _ _ _ us hl => match us, hl with | [_, _], _ => rfl) (fun _ _ _ _ h => by obtain ⟨_, _, _, _, _, _, _, _, hw, _⟩ := h; exact hw) (fun d hh => ok_law_nests (d := d) F_law_nests T hh) 4⟩⟩
  have h_law_mark : Has P w K mg base "_law_mark" ["body", "point"] 4 (spNum K 4) := ⟨⟨_, _, He.glo_ok X G (c.fact 37 (f := .glo "_law_mark") rfl), F_law_mark.kp, (F_law_mark.bindsN fun _ _ _ _ _ _ us hl => match us, hl with | [_, _], _ => rfl), fn_chain (k := 0) (sp := spNum K) (He.glo_ok X G (c.fact 37 (f := .glo "_law_mark") rfl)) F_law_mark.kp (F_law_mark.bindsN fun _ _ _ _ _ _ us hl => match us, hl with | [_, _], _ => rfl) (fun _ _ _ _ h => by obtain ⟨_, _, _, _, _, hw, _⟩ := h; exact hw) (fun d hh => ok_law_mark (d := d) F_law_mark T hh) 4⟩⟩
  have h_law_groups : Has P w K mg base "_law_groups" ["core", "pairs"] 1 (spLG K) := ⟨⟨_, _, He.glo_ok X G (c.fact 32 (f := .glo "_law_groups") rfl), F_law_groups.kp, F_law_groups.bindsN fun _ _ _ _ _ _ us hl => match us, hl with | [_, _], _ => rfl, ok_law_groups F_law_groups T⟩⟩
  have h_law_callees : Has P w K mg base "_law_callees" ["p"] 5 (spCalls K) := ⟨⟨_, _, He.glo_ok X G (c.fact 26 (f := .glo "_law_callees") rfl), F_law_callees.kp, F_law_callees.bindsN fun _ _ _ _ _ _ us hl => match us, hl with | [_], _ => rfl, ok_law_callees F_law_callees T h_law_statements⟩⟩
  have h_law_reach : Has P w K mg base "_law_reach" ["core"] 6 (spRch K) := ⟨⟨_, _, He.glo_ok X G (c.fact 31 (f := .glo "_law_reach") rfl), F_law_reach.kp, F_law_reach.bindsN fun _ _ _ _ _ _ us hl => match us, hl with | [_], _ => rfl, ok_law_reach F_law_reach T h_law_callees⟩⟩
  have h_calls_in : Has P w K mg base "calls_in" ["proc"] 5 (spCalls K) := ⟨⟨_, _, He.glo_ok X G (c.fact 8 (f := .glo "calls_in") rfl), F_calls_in.kp, F_calls_in.bindsN fun _ _ _ _ _ _ us hl => match us, hl with | [_], _ => rfl, ok_calls_in F_calls_in T h_statements_in⟩⟩
  have h_reached_from : Has P w K mg base "reached_from" ["core", "name"] 6 (spReach K) := ⟨⟨_, _, He.glo_ok X G (c.fact 9 (f := .glo "reached_from") rfl), F_reached_from.kp, F_reached_from.bindsN fun _ _ _ _ _ _ us hl => match us, hl with | [_, _], _ => rfl, ok_reached_from F_reached_from T h_calls_in h_proc_named⟩⟩
  have h_group_of : Has P w K mg base "group_of" ["reached", "name"] 1 (spGrp K) := ⟨⟨_, _, He.glo_ok X G (c.fact 10 (f := .glo "group_of") rfl), F_group_of.kp, F_group_of.bindsN fun _ _ _ _ _ _ us hl => match us, hl with | [_, _], _ => rfl, ok_group_of F_group_of T⟩⟩
  have h_groups_of : Has P w K mg base "groups_of" ["core"] 7 (spGrps K) := ⟨⟨_, _, He.glo_ok X G (c.fact 11 (f := .glo "groups_of") rfl), F_groups_of.kp, F_groups_of.bindsN fun _ _ _ _ _ _ us hl => match us, hl with | [_], _ => rfl, ok_groups_of F_groups_of T h_reached_from h_group_of⟩⟩
  have h_law_ways : Has P w K mg base "_law_ways" ["core", "groups"] 6 (spLW K) := ⟨⟨_, _, He.glo_ok X G (c.fact 33 (f := .glo "_law_ways") rfl), F_law_ways.kp, F_law_ways.bindsN fun _ _ _ _ _ _ us hl => match us, hl with | [_, _], _ => rfl, ok_law_ways F_law_ways T h_law_callees⟩⟩
  have h_ways_table : Has P w K mg base "ways_table" ["core"] 8 (spWT K) := ⟨⟨_, _, He.glo_ok X G (c.fact 12 (f := .glo "ways_table") rfl), F_ways_table.kp, F_ways_table.bindsN fun _ _ _ _ _ _ us hl => match us, hl with | [_], _ => rfl, ok_ways_table F_ways_table T h_groups_of h_calls_in h_proc_named⟩⟩
  have h_ways_down : Has P w K mg base "ways_down" ["core", "group"] 9 (spWD K) := ⟨⟨_, _, He.glo_ok X G (c.fact 13 (f := .glo "ways_down") rfl), F_ways_down.kp, F_ways_down.bindsN fun _ _ _ _ _ _ us hl => match us, hl with | [_, _], _ => rfl, ok_ways_down F_ways_down T h_ways_table⟩⟩
  exact ok_law F_law T h_law_start h_law_core h_law_all_moves h_law_same h_moving_of h_nests_of h_law_nests h_law_mark h_law_groups h_law_reach h_groups_of h_law_ways h_ways_down
end
end K88

set_option maxHeartbeats 0
open PySem PySem.W PySem.Calls PyProof.Rows
theorem PySem.Challenge.cw_differwithin_k88_groups_nests_and_moving_holds : PySem.Challenge.rw_differwithin_k88_groups_nests_and_moving.Holds := by
  w_on; o_law
  refine HandSHeadRun.head_any (r := OpenLaw.row PySem.Challenge.rw_differwithin_k88_groups_nests_and_moving) (q := view (OpenLaw.row PySem.Challenge.rw_differwithin_k88_groups_nests_and_moving).prog [43]) (H := K88.hdHk) (ob := K88.hdOb) (M := 6000) (loose := K88.hdLoose) (d := HandSHeadRun.topDef (OpenLaw.row PySem.Challenge.rw_differwithin_k88_groups_nests_and_moving).prog 43) (kwd := []) K88.hdOb_eq
    (by kernel_rfl) (fun s => by kernel_rfl) K88.hdRun (by kernel_rfl) (by kernel_rfl) (by kernel_rfl) (by rfl) (by first | assumption | decide +kernel) (by decide +kernel) ⟨rfl, rfl, rfl, rfl, rfl, by decide +kernel⟩ ?hw ?hc
  case hw => w_witness2
  case hc =>
    refine L2.walk_ofE (l := PySem.Challenge.rw_differwithin_k88_groups_nests_and_moving) (n := 63) (k := 12) (x := "script") (CX := L2.CX0) rfl (by decide) (by kernel_rfl) ⟨rfl, by decide, by decide⟩ ?F (fun _ _ _ _ z => z)
    intro w mg fa h Y G hmg0
    obtain ⟨K, KX, c⟩ := Y
    have hmg : mg ("law" : PySem.Str) = some (.ref fa) := by
      have e : (HandSHeadRun.topDef (OpenLaw.row PySem.Challenge.rw_differwithin_k88_groups_nests_and_moving).prog 43).name = ("law" : PySem.Str) := by kernel_rfl
      rw [← e]
      exact hmg0
    obtain ⟨fd, hb, hF⟩ := K88.hd_facts (P := (PySem.Challenge.rw_differwithin_k88_groups_nests_and_moving).prog) (w := w) KX G hmg (congrArg Prod.fst c.t) c.more
    exact ⟨K, fd, K88.spLaw K, KX, hb, fun H a ns hl _ hS => ⟨a, ns, rfl, hS, hl, fun _ => rfl⟩, hF⟩
