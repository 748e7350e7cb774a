import PyProof.Rows.All
import Wide.All
import OpenK.AllK
import Wide.FinOn
import KE.KStateDown
import Lean
import HandS.Base
import HandS.Call
import HandS.List
import HandS.Comp
import HandS.Ends
import HandS.Iter
import HandS.Dict
import HandS.More
import HandS.Words
import HandS.WordsList
import HandS.WordsExc
import HandS.Exc
import HandS.ExcOwn
import HandS.TryOnly
import HandS.Evl
import HandS.IsInst
import HandS.Conv
import HandS.RevRange
import HandS.Rev
import HandS.SortRule
import HandS.SortInts
import HandS.SetFor
import HandS.Defaults
import HandS.Head0
import HandS.Head1
import HandS.Head2
import HandS.HeadEnd
import HandS.HeadHook1
import HandS.HeadHook2
import HandS.Text
import HandS.HotCalls
import HandS.ExcIs
import KE.GoesRaise
import PySem.Challenge.RW_wishmoor_k22_read
set_option Elab.async false
set_option linter.all false
set_option maxRecDepth 100000
set_option maxHeartbeats 400000
/-! THE LAYER: a def as the top leaves it (Def), as callers use it (Own), and what Evl lacks -/
namespace Wm
open PySem PySem.Spec PyProof.Rows L2 Evl
abbrev Mg := Str → Option Value
abbrev Kf := PySem.W.Frag

structure Def (K : Kf) (mg : Mg) (x : Str) (st : Stmt) : Prop where
  ex : ∃ (f : Addr) (fd : FuncData), FunD K x x (defArgs st) (defBody st) (defScope st) [] [] f fd ∧ mg x = some (.ref f)
structure Own (P : Program) (w : World) (K : Kf) (mg : Mg) (base : Heap) (CX : CXT) (k : Nat) (x : Str) (ps : List Str) (sp : Sp) : Prop where
  ex : ∃ (f : Addr) (fd : FuncData), FnOk P w K mg base CX k f fd ps sp ∧ mg x = some (.ref f) ∧ PySem.W.keepIn K (.ref f) = true ∧ Binds K fd ps []
abbrev BindsWell (x : Str) (st : Stmt) (ps : List Str) : Prop := ∀ (kV doc pm : Value) (an : Option Addr) (cdv ct : Value) (us : List Value), us.length = ps.length →
  bindArgs (PySem.W.fnOf x x (defArgs st) (defBody st) (defScope st) .none kV doc pm an cdv ct) ⟨us, []⟩ = pure (ps.zip us)
section
variable {P : Program} {w : World} {K : Kf} {mg : Mg} {base : Heap}
/-- nothing is raised out of the def -/
theorem Def.calm {x : Str} {st : Stmt} {N ps : List Str} {k : Nat} {sp : Sp} (D : Def K mg x st) (S : FnScope N ps (defScope st)) (b : BindsWell x st ps) (len : ∀ vs H Q E, sp vs H Q E → vs.length = ps.length)
    (body : ∀ (f : Addr) (cdv : Value) (A : Around) (outer : List Env) (s : Shared) (H : Hp) (vs : List V) (Q : VK) (E : XK), Room k (A.deeper (envOfC x (defScope st) s.heap.objs.size f cdv)) → sp vs H Q E →
      ∃ t, PSs (cxOf CX0 P w K mg base N x (defScope st) f cdv A outer s H E).nox (defBody st) t ∧ t { nx := fun _ H' => Q .non H', rt := Q } (start N vs) H) : Own P w K mg base CX0 (k + 1) x ps sp := by
  obtain ⟨f, fd, F, m⟩ := D.ex
  refine ⟨f, fd, F.ok S len fun cdv A outer s H vs Q E hr h => ?_, m, F.kp, F.bindsN b⟩
  obtain ⟨t, h1, h2⟩ := body f cdv A outer s H vs Q E hr h
  exact ⟨t, h1.nox, h2⟩
/-- something may be raised out of it -/
theorem Def.hot {x : Str} {st : Stmt} {N ps : List Str} {k : Nat} {sp : Sp} (D : Def K mg x st) (S : FnScope N ps (defScope st)) (b : BindsWell x st ps) (len : ∀ vs H Q E, sp vs H Q E → vs.length = ps.length)
    (body : ∀ (f : Addr) (cdv : Value) (A : Around) (outer : List Env) (s : Shared) (H : Hp) (vs : List V) (Q : VK) (E : XK), Room k (A.deeper (envOfC x (defScope st) s.heap.objs.size f cdv)) → sp vs H Q E →
      ∃ t, PSs (cxOf (L2.CX P w) P w K mg base N x (defScope st) f cdv A outer s H E) (defBody st) t ∧ t { nx := fun _ H' => Q .non H', rt := Q } (start N vs) H) : Own P w K mg base (L2.CX P w) (k + 1) x ps sp := by
  obtain ⟨f, fd, F, m⟩ := D.ex
  exact ⟨f, fd, F.ok S len fun cdv A outer s H vs Q E hr h => body f cdv A outer s H vs Q E hr h, m, F.kp, F.bindsN b⟩
end
section
variable {X : Cx} {CX : CXT} {k : Nat} {ps : List Str} {sp : Sp} {E : XK} {x : Str} {p pos : Pos} {e : Expr} {es : List Expr} {t : TA}
theorem pe_own (F : Own X.prog X.w X.K X.mg X.base CX k x ps sp) (hr : Room k X.A) (hx : Passes CX X E) (ha : PA X (e :: es) t) (hg : Gl X x := by rfl) (hdb : (x == ("__debug__" : Str)) = false := by decide)
    (he : starEach (e :: es) X.env = (false, eval e X.env) :: starEach es X.env := by rfl) (hpl : (backTo pos (starEach es X.env)).any (·.1) = false := by rfl) : PE X (.Call (.Name x p) (e :: es) [] pos) (tCall sp [] E t) := by
  obtain ⟨f, fd, G, m, kp, b⟩ := F.ex
  exact pe_call G hr hg m kp b .nil hx ha hdb he hpl
theorem op_inK {K : Kf} (h : X.K = K) : OpR X (compareOp .In) (rIn K false) := h ▸ op_in_seq
theorem op_notInK {K : Kf} (h : X.K = K) : OpR X (compareOp .NotIn) (rIn K true) := h ▸ op_notIn_seq
theorem ix_listK {K : Kf} (h : X.K = K) : IxR X (rIxL K) := h ▸ ix_list
theorem ix_tupK {K : Kf} (h : X.K = K) : IxR X (rIxT K) := h ▸ ix_tup
theorem op_eqK {K : Kf} (h : X.K = K) (hu : X.A.units + 64 < cLine) : OpR X (compareOp .Eq) (rEqD K) := h ▸ op_eqD hu
theorem cr_lenK {K : Kf} (h : X.K = K) : CallR X (.builtin "len") (rLenS K) := h ▸ call_len_seq
theorem pg_tupK {K : Kf} {es : List Expr} {j n : Nat} {g : TGs} {pos : Pos} (h : X.K = K) (hc : X.calm = true) (hs : PGs X es g) (hn : (assignEach es X.env).length = n := by rfl) (ht : (assignEach es X.env).findIdx? (·.1) = none := by rfl) : PG X (.Tuple es j pos) (gTup K n g) := h ▸ pg_tup hc hs hn ht
theorem mt_indexK {K : Kf} (h : X.K = K) : MtR X "list.index" (rIndex K) := h ▸ mt_index
theorem pe_bmK {K : Kf} {o e : Expr} {es : List Expr} {to : TE} {t : TA} {name : Str} {apos cpos : Pos} {T id : String} {r : V → List V → Hp → VK → Prop} (h : X.K = K) (pa : PlainAttrs T) (slot : Slot T name id) (hty : typeOf (.builtin id) = pure (.type "method_descriptor")) (hm : MtR X id r) (ho : PE X o to) (ha : PA X (e :: es) t) (hbase : attributeBase o name X.env (eval o X.env) = eval o X.env := by rfl) (hfew : ((backTo cpos (starEach (e :: es) X.env)).all (fun x => !x.1) && (backToKw cpos (keywordEach [] X.env)).all (fun x => x.1.isSome) && decide ((e :: es).length + ([] : List Keyword).length + (if ([] : List Keyword).isEmpty then 0 else 1) < 30)) = true := by rfl) (hline : (apos.endLine == cpos.line) = true := by rfl) (hs : starEach (e :: es) X.env = (false, eval e X.env) :: starEach es X.env := by rfl) (hplain : (backTo cpos (starEach es X.env)).any (·.1) = false := by rfl) : PE X (.Call (.Attribute o name apos) (e :: es) [] cpos) (tBM K T r to t) := h ▸ pe_bm pa slot hty hm ho ha hbase hfew hline hs hplain
theorem cr_len : CallR X (.builtin "len") (rLenS X.K) := call_len_seq
theorem cr_list : CallR X (.type "list") (rListS X.K) := call_list_of
end
/-- the names that the program leaves to the built-ins -/
structure Txt (mg : Mg) : Prop where
  len : mg "len" = none
  range : mg "range" = none
  list : mg "list" = none
  isinstance : mg "isinstance" = none
  int : mg "int" = none
  bool : mg "bool" = none
  str : mg "str" = none
  tuple : mg "tuple" = none
  reversed : mg "reversed" = none
  sorted : mg "sorted" = none
  sum : mg "sum" = none
  min : mg "min" = none
  max : mg "max" = none
  set : mg "set" = none
  ValueError : mg "ValueError" = none
/-- the law's promise -/
def spLaw (K : Kf) : Sp := fun vs H Q _ => ∃ (a : Addr) (ns : List Int), vs = [.ref a] ∧ SqL K H a (ns.map V.int) ∧ ns.length ≤ 63 ∧ ∀ H', Q (.bl true) H'
/-! ### promises -/
def RetU (xs : List V) (H : Hp) (Q : VK) : Prop := ∀ p H2, H p = none → Ex H H2 → H2 p = some (.tup xs) → Q (.ref p) H2
section
variable {K : Kf} {σ : L2.St} {H H' : Hp} {ta tb te tx : TE} {t u : TT} {x y z v : V} {r : R2}
theorem retV_mono {Q : VK} (k : RetV v H Q) (e : Ex H H') : RetV v H' Q := fun H2 e2 => k H2 (e.trans e2)
theorem retL_mono {xs : List V} {Q : VK} (k : RetL xs H Q) (e : Ex H H') : RetL xs H' Q := fun p H2 hp e2 h => k p H2 (fresh_back e hp) (e.trans e2) h
/-- isinstance of a built-in class -/
theorem ev_isi {a b : String} {r : Bool} (ha : Ev ta σ H x) (ht : ∀ H1, Ex H H1 → TyX K H1 x (.type a)) (hk : kitB a b = some r) : Ev (tCB (rIsi K) (tCons ta (tCons (tC (.ty b)) tNil))) σ H (.bl r) := fun H1 e Q q =>
  ha H1 e _ fun H2 e2 => ⟨x, .ty b, .type a, .type b, r, rfl, ClsV.ty b, ht H2 (e.trans e2), kit_ty hk, q H2 e2⟩
theorem et_of {b : Bool} (h : Ev te σ H (.bl b)) : EvT (tTest te) σ H b := et_test h
/-- a call: what it hands back is any value of which P -/
def EvP (te : TE) (σ : L2.St) (H : Hp) (P : V → Hp → Prop) : Prop := ∀ H1, Ex H H1 → ∀ Q : VK, (∀ v H2, Ex H1 H2 → P v H2 → Q v H2) → te σ H1 Q
end
end Wm
/-! ### the head's facts, with one Bool more -/
namespace Wm
open PySem PySem.Spec PyProof.Rows L2
abbrev AlM : Type := He.AlD × Bool
def obsM (n : Nat) (fa : List He.Fa) (fn : List He.DefD) (mo : Kf → Bool) (g : Addr → Option Obj) : AlM := (He.obsDG n fa fn g, mo (He.frG g (He.asD g n)))
def SaysM (fa : List He.Fa) (fn : List He.DefD) (mo : Kf → Bool) (K : Kf) : Prop := He.SaysD fa fn K ∧ mo K = true
def hookM (n : Nat) (fa : List He.Fa) (fn : List He.DefD) (mo : Kf → Bool) : PySem.W.Hook where
  α := AlM
  obs := fun z => obsM n fa fn mo z.heap.get?
  val := fun _ => (He.valD fn, true)
  says := fun _ hp => ∃ K : Kf, K.In hp ∧ SaysM fa fn mo K
  of := fun _ _ e => ⟨_, He.frG_in, (Prod.mk.inj e).1, (Prod.mk.inj e).2⟩
  keeps := fun _ _ _ ⟨K, hK, c⟩ z => ⟨K, PySem.W.Frag.In.keeps hK z, c⟩
theorem obsM_eq {n : Nat} {fa : List He.Fa} {fn : List He.DefD} {mo : Kf → Bool} {g : Addr → Option Obj} {z : Shared} (h : ∀ a, g a = z.heap.get? a) : obsM n fa fn mo g = (hookM n fa fn mo).obs z := by
  rw [show g = z.heap.get? from funext h]
  rfl
end Wm

/-! ### the words of the walk: «ex» an extension, «sq» a list that stands, «ev» an expression's value, «et» a test's answer, «side» what an operator asks -/
local macro_rules | `(tactic| walk_at "ex") => `(tactic| first
  | assumption
  | exact Evl.Ex.refl _
  | (refine Evl.Ex.trans ?_ (by assumption); walk_at "ex"))
namespace Wm
open PySem PySem.Spec PyProof.Rows L2 Evl
section
variable {K : Kf} {σ : L2.St} {H H' : Hp} {ta tb te tx : TE} {t u : TT} {x y z v : V} {r : R2} {a : Addr} {xs : List V}
theorem sq_ex (e : Ex H H') (h : H a = some (.lst xs)) : SqL K H' a xs := sq_of (e a _ h)
theorem st_ex (e : Ex H H') (h : H a = some (.tup xs)) : SqT K H' a xs := st_of (e a _ h)
theorem rv_isN : RV (fun x y H Q => y = .non ∧ Q (.bl (decide (x = .non))) H) x .non H (.bl (decide (x = .non))) := fun H1 _ _ q => ⟨rfl, q H1 (Ex.refl H1)⟩
theorem rv_notN : RV (fun x y H Q => y = .non ∧ Q (.bl (!decide (x = .non))) H) x .non H (.bl (!decide (x = .non))) := fun H1 _ _ q => ⟨rfl, q H1 (Ex.refl H1)⟩
theorem rv_cat {p q : Addr} {xs ys : List V} (hp : H p = some (.lst xs)) (hq : H q = some (.lst ys)) (hz : xs.length + ys.length ≤ 100000) {Q : VK} (k : ∀ l, H l = none → Q (.ref l) (upd H l (.lst (xs ++ ys)))) : rCat (.ref p) (.ref q) H Q :=
  ⟨p, q, xs, ys, rfl, rfl, hp, hq, sz_of hz, k⟩
/-- xs + [..]: a new list -/
theorem el_cat {p : Addr} {xs ys : List V} (ha : Ev ta σ H (.ref p)) (hp : H p = some (.lst xs)) (hb : EvL tb σ H ys) (hz : xs.length + ys.length ≤ 100000) : EvL (tOp rCat ta tb) σ H (xs ++ ys) := fun H1 e Q q =>
  ha H1 e _ fun H2 e2 => hb H2 (e.trans e2) _ fun b H3 _ e3 hb3 => rv_cat (((e.trans e2).trans e3) p _ hp) hb3 hz fun l hl => q l _ (fresh_back (e2.trans e3) hl) ((e2.trans e3).trans (Ex.new hl)) upd_same
/-- [..] + [..] -/
theorem el_catLL {xs ys : List V} (ha : EvL ta σ H xs) (hb : EvL tb σ H ys) (hz : xs.length + ys.length ≤ 100000) : EvL (tOp rCat ta tb) σ H (xs ++ ys) := fun H1 e Q q =>
  ha H1 e _ fun p H2 _ e2 hp => hb H2 (e.trans e2) _ fun b H3 _ e3 hb3 => rv_cat (e3 p _ hp) hb3 hz fun l hl => q l _ (fresh_back (e2.trans e3) hl) ((e2.trans e3).trans (Ex.new hl)) upd_same
theorem el_is {xs ys : List V} (h : EvL te σ H xs) (e : xs = ys) : EvL te σ H ys := e ▸ h
/-- a call that hands back a value, a list, a tuple; what is told of the arguments is told at the heap of the call -/
theorem ev_callV {sp : Sp} {E : XK} {ta : TA} {vs : List V} (h : EvA ta σ H vs) (hs : ∀ H1, Ex H H1 → ∀ Q : VK, RetV z H1 Q → ∀ E : XK, sp vs H1 Q E) : Ev (tCall sp [] E ta) σ H z := fun H1 e Q q =>
  h H1 e _ fun H2 e2 => by
    rw [List.append_nil]
    exact hs H2 (e.trans e2) Q (fun H3 e3 => q H3 (e2.trans e3)) E
theorem el_callL {sp : Sp} {E : XK} {ta : TA} {vs xs : List V} (h : EvA ta σ H vs) (hs : ∀ H1, Ex H H1 → ∀ Q : VK, RetL xs H1 Q → ∀ E : XK, sp vs H1 Q E) : EvL (tCall sp [] E ta) σ H xs := fun H1 e Q q =>
  h H1 e _ fun H2 e2 => by
    rw [List.append_nil]
    exact hs H2 (e.trans e2) Q (fun p H3 hp e3 h3 => q p H3 (fresh_back e2 hp) (e2.trans e3) h3) E
theorem eu_callU {sp : Sp} {E : XK} {ta : TA} {vs xs : List V} (h : EvA ta σ H vs) (hs : ∀ H1, Ex H H1 → ∀ Q : VK, RetU xs H1 Q → ∀ E : XK, sp vs H1 Q E) : EvU (tCall sp [] E ta) σ H xs := fun H1 e Q q =>
  h H1 e _ fun H2 e2 => by
    rw [List.append_nil]
    exact hs H2 (e.trans e2) Q (fun p H3 hp e3 h3 => q p H3 (fresh_back e2 hp) (e2.trans e3) h3) E
theorem ev_ixL {i : Int} {p : Addr} {xs : List V} (ha : Ev ta σ H (.ref p)) (hb : Ev tb σ H (.int i)) (h : SqL K H p xs) (hv : atI xs i = some v) : Ev (tOp (rIxL K) ta tb) σ H v := ev_op ha hb (rv_ixL h hv)
theorem ev_ixNL {i : Int} {xs : List V} (ha : EvL ta σ H xs) (hb : ∀ H1, Ex H H1 → Ev tb σ H1 (.int i)) (hv : atI xs i = some v) : Ev (tOp (rIxL K) ta tb) σ H v := ev_opL1 ha hb fun _ _ h _ => rv_ixL (sq_of h) hv
theorem atI_int {ns : List Int} {i : Int} (h0 : 0 ≤ i) (h1 : i < ns.length) : atI (ns.map V.int) i = some (.int (ns.getD i.toNat 0)) := by
  obtain ⟨j, rfl⟩ := Int.eq_ofNat_of_zero_le h0
  refine atI_nat ?_
  have hj : j < ns.length := by omega
  rw [List.getElem?_map, List.getElem?_eq_getElem hj, Int.toNat_natCast, List.getD_eq_getElem?_getD, List.getElem?_eq_getElem hj]
  rfl
theorem atI_get? {xs : List V} {i : Int} {j : Nat} (hj : i = (j : Int)) (h : xs[j]? = some v) : atI xs i = some v := by
  rw [hj]
  exact atI_nat h
/-- reading a slot of a list of ints -/
theorem map_at {ns : List Int} {i : Nat} {w : V} (h : (ns.map V.int)[i]? = some w) : ∃ z, w = .int z ∧ ns[i]? = some z ∧ i < ns.length ∧ z ∈ ns ∧ ns.getD i 0 = z := by
  rw [List.getElem?_map] at h
  cases e : ns[i]? with
  | none =>
    rw [e] at h
    cases h
  | some z =>
    rw [e] at h
    obtain ⟨hi, _⟩ := List.getElem?_eq_some_iff.mp e
    exact ⟨z, (Option.some.inj h).symm, rfl, hi, List.mem_of_getElem? e, by rw [List.getD_eq_getElem?_getD, e]; rfl⟩
end
/-! ### == of lists -/
def vD : V → PyData
  | .non => .none
  | .bl b => .bool b
  | .int i => .int i
  | .str s => .str s
  | _ => .none
def flat1 : V → Bool
  | .non => true
  | .bl _ => true
  | .int _ => true
  | .str _ => true
  | _ => false
theorem dpAll_flat {K : Kf} {H : Hp} : ∀ {xs : List V}, xs.all flat1 = true → DpAll K H xs (xs.map vD)
  | [], _ => .nil
  | x :: r, h => by
    rw [List.all_cons, Bool.and_eq_true] at h
    refine .cons ?_ (dpAll_flat h.2)
    cases x with
    | non => exact .non
    | bl b => exact .bl b
    | int i => exact .int i
    | str s => exact .str s
    | _ => exact Bool.noConfusion h.1
theorem all_int (ns : List Int) : (ns.map V.int).all flat1 = true := by
  rw [List.all_map, List.all_eq_true]
  intro z _
  rfl
end Wm
local macro_rules | `(tactic| walk_at "sq") => `(tactic| first
  | assumption
  | exact Evl.sq_of (by assumption)
  | (refine Evl.ex_l ?_ (by assumption); walk_at "ex")
  | (refine Wm.sq_ex ?_ (by assumption); walk_at "ex"))
local macro_rules | `(tactic| walk_at "side") => `(tactic| first
  | assumption
  | exact ⟨by decide, by decide⟩
  | exact ⟨by omega, by omega⟩
  | exact Or.inl ⟨by omega, by omega⟩
  | exact Or.inr ⟨by omega, by omega⟩
  | (show (0 : Int) < _; omega)
  | (show (0 : Int) < _; decide)
  | omega)
local macro_rules | `(tactic| walk_at "at") => `(tactic| first
  | assumption
  | exact L2.atI_nat (by assumption)
  | exact Wm.atI_int (by omega) (by omega)
  | exact Wm.atI_get? (by omega) (by assumption))
local macro_rules | `(tactic| walk_at "call") => `(tactic| fail "no call")
local macro_rules | `(tactic| walk_at "ev") => `(tactic| first
  | with_reducible exact Evl.ev_c
  | ((with_reducible refine' Evl.ev_var ?h); (case h => rfl))
  | ((with_reducible refine' Evl.ev_op ?ha ?hb Evl.rv_I0); (case ha => walk_at "ev"); (case hb => walk_at "ev"))
  | ((with_reducible refine' Evl.ev_op ?ha ?hb (Evl.rv_I ?hc)); (case ha => walk_at "ev"); (case hb => walk_at "ev"); (case hc => walk_at "side"))
  | ((with_reducible refine' Evl.ev_op ?ha ?hb (Evl.rv_eq ?hc)); (case ha => walk_at "ev"); (case hb => walk_at "ev"); (case hc => rfl))
  | ((with_reducible refine' Evl.ev_op ?ha ?hb (Evl.rv_ne ?hc)); (case ha => walk_at "ev"); (case hb => walk_at "ev"); (case hc => rfl))
  | ((with_reducible refine' Evl.ev_op ?ha Evl.ev_c Wm.rv_isN); (case ha => walk_at "ev"))
  | ((with_reducible refine' Evl.ev_op ?ha Evl.ev_c Wm.rv_notN); (case ha => walk_at "ev"))
  | ((with_reducible refine' Evl.ev_len ?ha ?hb); (case ha => walk_at "ev"); (case hb => walk_at "sq"))
  | ((with_reducible refine' Wm.ev_ixL ?ha ?hb ?hc ?hd); (case ha => walk_at "ev"); (case hb => walk_at "ev"); (case hc => walk_at "sq"); (case hd => walk_at "at"))
  | ((with_reducible refine' Evl.ev_un ?ha Evl.ru_neg); (case ha => walk_at "ev"))
  | ((with_reducible refine' Evl.ev_notV ?ha); (case ha => walk_at "ev"))
  | ((with_reducible refine' Evl.ev_andV ?ha ?hb); (case ha => walk_at "ev"); (case hb => (intro _; walk_at "ev")))
  | ((with_reducible refine' Evl.ev_orV ?ha ?hb); (case ha => walk_at "ev"); (case hb => (intro _; walk_at "ev")))
  | walk_at "call")
local macro_rules | `(tactic| walk_at "ea") => `(tactic| first
  | with_reducible exact Evl.ea_nil
  | ((with_reducible refine' Evl.ea_cons ?ha ?hb); (case ha => walk_at "ev"); (case hb => walk_at "ea")))
local macro_rules | `(tactic| walk_at "el") => `(tactic| first
  | ((with_reducible refine' Evl.el_lst ?ha ?hb); (case ha => walk_at "ea"); (case hb => first | decide | exact Nat.le_of_ble_eq_true rfl | simp))
  | ((with_reducible refine' Evl.el_list ?ha ?hb); (case ha => walk_at "ev"); (case hb => walk_at "sq"))
  | walk_at "call")
local macro_rules | `(tactic| walk_at "et") => `(tactic| first
  | ((with_reducible refine' Evl.et_test ?ha); (case ha => walk_at "ev"))
  | ((with_reducible refine' Evl.et_B ?ha); (case ha => walk_at "ev"))
  | ((with_reducible refine' Evl.et_not ?ha); (case ha => walk_at "et"))
  | ((with_reducible refine' Evl.et_and ?ha ?hb); (case ha => walk_at "et"); (case hb => (intro _; walk_at "et")))
  | ((with_reducible refine' Evl.et_or ?ha ?hb); (case ha => walk_at "et"); (case hb => (intro _; walk_at "et"))))
local macro_rules | `(tactic| walk_at "eu") => `(tactic| first
  | ((with_reducible refine' Evl.eu_tup ?ha ?hb); (case ha => walk_at "ea"); (case hb => first | decide | exact Nat.le_of_ble_eq_true rfl | simp)))

/-! ### dicts by ints, == of lists, comprehensions by what they give -/
namespace Wm
open PySem PySem.Spec PyProof.Rows L2 Evl
section
variable {K : Kf} {σ : L2.St} {H H' : Hp} {ta tb te tl tx td ty tv : TE} {t u : TT} {x y z v : V} {r : R2} {a d : Addr} {xs ys : List V} {D : Ends} {tz : TS}
theorem ev_dnotin {k : Int} {kvs : List (Key × V)} (ha : Ev ty σ H (.int k)) (hb : Ev td σ H (.ref d)) (hd : H d = some (.dK kvs)) : Ev (tDNotIn ty td) σ H (.bl (!(valV kvs (Sum.inl k : Key)).isSome)) := fun H1 e Q q =>
  ha H1 e _ fun H2 e2 => hb H2 (e.trans e2) _ fun H3 e3 => ⟨d, _, rfl, DGet.k (k := Sum.inl k) (((e.trans e2).trans e3) d _ hd), q H3 (e2.trans e3)⟩
theorem ev_din {k : Int} {kvs : List (Key × V)} (ha : Ev ty σ H (.int k)) (hb : Ev td σ H (.ref d)) (hd : H d = some (.dK kvs)) : Ev (tDIn ty td) σ H (.bl (valV kvs (Sum.inl k : Key)).isSome) := fun H1 e Q q =>
  ha H1 e _ fun H2 e2 => hb H2 (e.trans e2) _ fun H3 e3 => ⟨d, _, rfl, DGet.k (k := Sum.inl k) (((e.trans e2).trans e3) d _ hd), q H3 (e2.trans e3)⟩
theorem s_dput {k : Int} {kvs : List (Key × V)} (hv : Ev tv σ H v) (ho : Ev td σ H (.ref d)) (hi : Ev ty σ H (.int k)) (hd : H d = some (.dK kvs)) (hz : kvs.length < 100000) (q : ∀ H1, Ex H H1 → D.nx σ (upd H1 d (.dK (putK kvs (Sum.inl k) v)))) : sDPut td ty tv D σ H :=
  hv H (Ex.refl H) _ fun H1 e1 => ho H1 e1 _ fun H2 e2 => hi H2 (e1.trans e2) _ fun H3 e3 =>
    ⟨d, _, rfl, DPut.k (k := Sum.inl k) (((e1.trans e2).trans e3) d _ hd) (sz_lt hz), q H3 ((e1.trans e2).trans e3)⟩
theorem q_dput {k : Int} {kvs : List (Key × V)} (hv : Ev tv σ H v) (ho : Ev td σ H (.ref d)) (hi : Ev ty σ H (.int k)) (hd : H d = some (.dK kvs)) (hz : kvs.length < 100000) (q : ∀ H1, Ex H H1 → tz D σ (upd H1 d (.dK (putK kvs (Sum.inl k) v)))) : tSeq (sDPut td ty tv) tz D σ H :=
  s_dput (D := { D with nx := tz D }) hv ho hi hd hz q
/-- x = {} -/
theorem q_dnew {i : Nat} (q : ∀ d, H d = none → tz D (σ.set i (some (.ref d))) (upd H d (.dK []))) : tSeq (tAsg tDNewK (gName i)) tz D σ H := fun d hd => q d hd
/-! == -/
def fl0 : V → Bool
  | .non => true
  | .int _ => true
  | .str _ => true
  | _ => false
theorem eqv_fl0 {x y : V} (hx : fl0 x = true) (hy : fl0 y = true) : PyData.eqv (vD x) (vD y) = decide (x = y) := by
  cases x with
  | non => cases y with
    | non => simp [vD, PyData.eqv]
    | int j => simp [vD, PyData.eqv]
    | str s => simp [vD, PyData.eqv]
    | _ => exact Bool.noConfusion hy
  | int i => cases y with
    | non => simp [vD, PyData.eqv]
    | int j => by_cases e : i = j <;> simp [vD, PyData.eqv, e]
    | str s => simp [vD, PyData.eqv]
    | _ => exact Bool.noConfusion hy
  | str s => cases y with
    | non => simp [vD, PyData.eqv]
    | int j => simp [vD, PyData.eqv]
    | str u => by_cases e : s = u <;> simp [vD, PyData.eqv, e]
    | _ => exact Bool.noConfusion hy
  | _ => exact Bool.noConfusion hx
theorem eqvAll_fl0 : ∀ {xs ys : List V}, xs.all fl0 = true → ys.all fl0 = true → PyData.eqvAll (xs.map vD) (ys.map vD) = decide (xs = ys)
  | [], [], _, _ => by simp [PyData.eqvAll]
  | [], _ :: _, _, _ => by simp [PyData.eqvAll]
  | _ :: _, [], _, _ => by simp [PyData.eqvAll]
  | x :: xs, y :: ys, h, g => by
    rw [List.all_cons, Bool.and_eq_true] at h g
    show (PyData.eqv (vD x) (vD y) && PyData.eqvAll (xs.map vD) (ys.map vD)) = _
    rw [eqv_fl0 h.1 g.1, eqvAll_fl0 h.2 g.2]
    by_cases e : x = y <;> by_cases e2 : xs = ys <;> simp [e, e2]
theorem fl0_flat1 {x : V} (h : fl0 x = true) : flat1 x = true := by
  cases x <;> first | rfl | exact Bool.noConfusion h
theorem all_flat1 {xs : List V} (h : xs.all fl0 = true) : xs.all flat1 = true := List.all_eq_true.mpr fun x hx => fl0_flat1 (List.all_eq_true.mp h x hx)
def fl2 : V → Bool
  | .non => true
  | .bl _ => true
  | .int _ => true
  | _ => false
theorem canLayAll_fl2 : ∀ {xs : List V}, xs.all fl2 = true → PyData.canLayAll0 (xs.map vD) = true
  | [], _ => rfl
  | x :: xs, h => by
    rw [List.all_cons, Bool.and_eq_true] at h
    show (PyData.canLay0 (vD x) && PyData.canLayAll0 (xs.map vD)) = true
    rw [canLayAll_fl2 h.2, Bool.and_true]
    cases x <;> first | rfl | exact Bool.noConfusion h.1
theorem depthAll_fl2 : ∀ {xs : List V}, xs.all fl2 = true → PyData.depthAll (xs.map vD) ≤ 1
  | [], _ => by simp [PyData.depthAll]
  | x :: xs, h => by
    rw [List.all_cons, Bool.and_eq_true] at h
    have ih := depthAll_fl2 h.2
    have h1 : PyData.depth (vD x) ≤ 1 := by
      cases x <;> first | (simp [vD, PyData.depth]; done) | exact Bool.noConfusion h.1
    simp only [List.map_cons, PyData.depthAll]
    omega
theorem shaped_list {xs : List V} (h : xs.all fl2 = true) : SeqAt.shaped (.list (xs.map vD)) = true := by
  unfold SeqAt.shaped
  rw [Bool.and_eq_true, decide_eq_true_eq]
  refine ⟨canLayAll_fl2 h, ?_⟩
  have h1 := depthAll_fl2 h
  simp only [PyData.depth]
  omega
/-- None, ints -/
def fl3 : V → Bool
  | .non => true
  | .int _ => true
  | _ => false
theorem fl3_0 {xs : List V} (h : xs.all fl3 = true) : xs.all fl0 = true := List.all_eq_true.mpr fun x hx => by
  have q := List.all_eq_true.mp h x hx
  cases x <;> first | rfl | exact Bool.noConfusion q
theorem fl3_2 {xs : List V} (h : xs.all fl3 = true) : xs.all fl2 = true := List.all_eq_true.mpr fun x hx => by
  have q := List.all_eq_true.mp h x hx
  cases x <;> first | rfl | exact Bool.noConfusion q
theorem rv_eqL {p q : Addr} (hp : SqL K H p xs) (hq : SqL K H q ys) (fx : xs.all fl3 = true) (fy : ys.all fl3 = true) : RV (rEqD K) (.ref p) (.ref q) H (.bl (decide (xs = ys))) := fun H1 e Q k =>
  ⟨_, _, .lst (ex_l e hp) (dpAll_flat (all_flat1 (fl3_0 fx))), .lst (ex_l e hq) (dpAll_flat (all_flat1 (fl3_0 fy))), shaped_list (fl3_2 fx), shaped_list (fl3_2 fy), by
    rw [show PyData.eqv (.list (xs.map vD)) (.list (ys.map vD)) = decide (xs = ys) by rw [PyData.eqv]; exact eqvAll_fl0 (fl3_0 fx) (fl3_0 fy)]
    exact k H1 (Ex.refl H1)⟩
theorem rv_neL {p q : Addr} (hp : SqL K H p xs) (hq : SqL K H q ys) (fx : xs.all fl3 = true) (fy : ys.all fl3 = true) : RV (rNeD K) (.ref p) (.ref q) H (.bl (!decide (xs = ys))) := fun H1 e Q k =>
  ⟨_, _, .lst (ex_l e hp) (dpAll_flat (all_flat1 (fl3_0 fx))), .lst (ex_l e hq) (dpAll_flat (all_flat1 (fl3_0 fy))), shaped_list (fl3_2 fx), shaped_list (fl3_2 fy), by
    rw [show PyData.eqv (.list (xs.map vD)) (.list (ys.map vD)) = decide (xs = ys) by rw [PyData.eqv]; exact eqvAll_fl0 (fl3_0 fx) (fl3_0 fy)]
    exact k H1 (Ex.refl H1)⟩
theorem ev_eqL {p q : Addr} (ha : Ev ta σ H (.ref p)) (hb : Ev tb σ H (.ref q)) (hp : SqL K H p xs) (hq : SqL K H q ys) (fx : xs.all fl3 = true) (fy : ys.all fl3 = true) : Ev (tOp (rEqD K) ta tb) σ H (.bl (decide (xs = ys))) := ev_op ha hb (rv_eqL hp hq fx fy)
theorem ev_neL {p q : Addr} (ha : Ev ta σ H (.ref p)) (hb : Ev tb σ H (.ref q)) (hp : SqL K H p xs) (hq : SqL K H q ys) (fx : xs.all fl3 = true) (fy : ys.all fl3 = true) : Ev (tOp (rNeD K) ta tb) σ H (.bl (!decide (xs = ys))) := ev_op ha hb (rv_neL hp hq fx fy)
/-- against a list that is made on the way -/
theorem ev_eqLN {p : Addr} (ha : Ev ta σ H (.ref p)) (hb : EvL tb σ H ys) (hp : SqL K H p xs) (fx : xs.all fl3 = true) (fy : ys.all fl3 = true) : Ev (tOp (rEqD K) ta tb) σ H (.bl (decide (xs = ys))) :=
  ev_opL ha hb fun _ _ h e => rv_eqL (ex_l e hp) (sq_of h) fx fy
theorem ev_neLN {p : Addr} (ha : Ev ta σ H (.ref p)) (hb : EvL tb σ H ys) (hp : SqL K H p xs) (fx : xs.all fl3 = true) (fy : ys.all fl3 = true) : Ev (tOp (rNeD K) ta tb) σ H (.bl (!decide (xs = ys))) :=
  ev_opL ha hb fun _ _ h e => rv_neL (ex_l e hp) (sq_of h) fx fy
theorem ev_neNN (ha : EvL ta σ H xs) (hb : EvL tb σ H ys) (fx : xs.all fl3 = true) (fy : ys.all fl3 = true) : Ev (tOp (rNeD K) ta tb) σ H (.bl (!decide (xs = ys))) :=
  ev_opLL ha hb fun _ _ _ h g _ => rv_neL (sq_of h) (sq_of g) fx fy
theorem ev_eqNL {q : Addr} (ha : EvL ta σ H xs) (hb : Ev tb σ H (.ref q)) (hq : SqL K H q ys) (fx : xs.all fl3 = true) (fy : ys.all fl3 = true) : Ev (tOp (rEqD K) ta tb) σ H (.bl (decide (xs = ys))) :=
  ev_opL1 ha (fun _ e => hb.mono e) fun _ _ h e => rv_eqL (sq_of h) (ex_l e hq) fx fy
theorem ev_neNL {q : Addr} (ha : EvL ta σ H xs) (hb : Ev tb σ H (.ref q)) (hq : SqL K H q ys) (fx : xs.all fl3 = true) (fy : ys.all fl3 = true) : Ev (tOp (rNeD K) ta tb) σ H (.bl (!decide (xs = ys))) :=
  ev_opL1 ha (fun _ e => hb.mono e) fun _ _ h e => rv_neL (sq_of h) (ex_l e hq) fx fy
/-! comprehensions -/
theorem el_lcR2 {ta : TA} {j : Nat} {vs : List Nat} {lo n : Int} (f : Nat → Bool) (g : Nat → V) (h : EvA ta σ H [.int lo, .int n]) (hn : 0 ≤ lo ∧ lo ≤ 40000 ∧ -40000 ≤ n ∧ n ≤ 40000) (hw : ∀ x, wipe ((wipe σ vs).set j (some x)) vs = wipe σ vs)
    (ht : ∀ (i : Nat) H1, Ex H H1 → lo + (i : Int) < n → EvT t ((wipe σ vs).set j (some (.int (lo + (i : Int))))) H1 (f i)) (he : ∀ (i : Nat) H1, Ex H H1 → lo + (i : Int) < n → f i = true → Ev te ((wipe σ vs).set j (some (.int (lo + (i : Int))))) H1 (g i)) :
    EvL (tLc (iRng2 ta) (gName j) t te vs) σ H (given (n - lo).toNat f g) := fun H0 e Q q => h H0 e _ fun H1 e1 => ⟨lo, n, rfl, ⟨by omega, by omega, by omega, by omega⟩, fun Dl hD =>
  lc_range (lo := lo) (n := (n - lo).toNat) (Cw H1 f g Dl) ⟨hD, Ex.new hD, upd_same⟩ (fun i H' hi p => ⟨hw _, cw_turn p (by omega) (ht i H1 (e.trans e1) (by omega)) (fun hf => he i H1 (e.trans e1) (by omega) hf)⟩) (fun H' p => q Dl H' (fresh_back e1 p.1) (e1.trans p.2.1) p.2.2)⟩
theorem given_list {p : V → Bool} {g : V → V} : ∀ xs : List V, given xs.length (fun i => p (xs.getD i .non)) (fun i => g (xs.getD i .non)) = (xs.filter p).map g := by
  intro xs
  have key : ∀ n, n ≤ xs.length → given n (fun i => p (xs.getD i .non)) (fun i => g (xs.getD i .non)) = ((xs.take n).filter p).map g := by
    intro n
    induction n with
    | zero => intro _; rfl
    | succ n ih =>
      intro hn
      have hlt : n < xs.length := hn
      have e : xs.take (n + 1) = xs.take n ++ [xs.getD n .non] := by
        rw [List.take_add_one, List.getElem?_eq_getElem hlt, List.getD_eq_getElem?_getD, List.getElem?_eq_getElem hlt]
        rfl
      rw [e, List.filter_append, List.map_append]
      cases hf : p (xs.getD n .non) with
      | true =>
        rw [given_yes hf, ih (Nat.le_of_lt hlt), List.filter_cons, if_pos hf]
        rfl
      | false =>
        rw [given_no hf, ih (Nat.le_of_lt hlt), List.filter_cons, if_neg (by rw [hf]; decide)]
        rw [List.filter_nil, List.map_nil, List.append_nil]
  rw [key xs.length (Nat.le_refl _), List.take_length]
theorem getD_of {xs : List V} {i : Nat} (h : xs[i]? = some x) : xs.getD i .non = x := by rw [List.getD_eq_getElem?_getD, h]; rfl
theorem el_lcX {vs : List Nat} {j : Nat} (p : V → Bool) (g : V → V) (h : Ev tl σ H (.ref a)) (hx : SqL K H a xs) (hz : xs.length ≤ 40000) (hw : ∀ x, wipe ((wipe σ vs).set j (some x)) vs = wipe σ vs)
    (ht : ∀ x H1, Ex H H1 → x ∈ xs → EvT t ((wipe σ vs).set j (some x)) H1 (p x)) (he : ∀ x H1, Ex H H1 → x ∈ xs → p x = true → Ev te ((wipe σ vs).set j (some x)) H1 (g x)) :
    EvL (tLc (iList K tl) (gName j) t te vs) σ H ((xs.filter p).map g) := by
  rw [← given_list]
  refine el_lcL _ _ h hx hz hw (fun i x H1 e hi => ?_) (fun i x H1 e hi hp => ?_)
  · rw [getD_of hi]
    exact ht x H1 e (List.mem_of_getElem? hi)
  · rw [getD_of hi] at hp ⊢
    exact he x H1 e (List.mem_of_getElem? hi) hp
theorem el_lcXN {vs : List Nat} {j : Nat} (p : V → Bool) (g : V → V) (h : EvL tl σ H xs) (hz : xs.length ≤ 40000) (hw : ∀ x, wipe ((wipe σ vs).set j (some x)) vs = wipe σ vs)
    (ht : ∀ x H1, Ex H H1 → x ∈ xs → EvT t ((wipe σ vs).set j (some x)) H1 (p x)) (he : ∀ x H1, Ex H H1 → x ∈ xs → p x = true → Ev te ((wipe σ vs).set j (some x)) H1 (g x)) :
    EvL (tLc (iList K tl) (gName j) t te vs) σ H ((xs.filter p).map g) := by
  rw [← given_list]
  refine el_lcNL _ _ h hz hw (fun i x H1 e hi => ?_) (fun i x H1 e hi hp => ?_)
  · rw [getD_of hi]
    exact ht x H1 e (List.mem_of_getElem? hi)
  · rw [getD_of hi] at hp ⊢
    exact he x H1 e (List.mem_of_getElem? hi) hp
theorem et_yes : EvT tYes σ H true := fun H1 _ _ q => q H1 (Ex.refl H1)
theorem given_all {n : Nat} {f : Nat → Bool} {g : Nat → V} (h : ∀ i, f i = true) : given n f g = (List.range n).map g := by
  unfold given
  rw [List.filter_eq_self.mpr fun i _ => h i]
end
/-- lists of naturals as Python's -/
def vn (ws : List Nat) : List V := ws.map fun (w : Nat) => V.int (w : Int)
theorem vn_len (ws : List Nat) : (vn ws).length = ws.length := List.length_map ..
theorem vn_ints (ws : List Nat) : vn ws = (ws.map Int.ofNat).map V.int := by
  unfold vn
  rw [List.map_map]
  rfl
theorem vn_at {ws : List Nat} {i : Nat} {x : V} (h : (vn ws)[i]? = some x) : ∃ w : Nat, x = .int (w : Int) ∧ ws[i]? = some w ∧ i < ws.length ∧ w ∈ ws := by
  unfold vn at h
  rw [List.getElem?_map] at h
  cases e : ws[i]? with
  | none =>
    rw [e] at h
    cases h
  | some w =>
    rw [e] at h
    obtain ⟨hi, _⟩ := List.getElem?_eq_some_iff.mp e
    exact ⟨w, (Option.some.inj h).symm, rfl, hi, List.mem_of_getElem? e⟩
theorem vn_get {ws : List Nat} {i w : Nat} (h : ws[i]? = some w) : (vn ws)[i]? = some (.int (w : Int)) := by
  unfold vn
  rw [List.getElem?_map, h]
  rfl
theorem vn_fl3 (ws : List Nat) : (vn ws).all fl3 = true := by
  unfold vn
  rw [List.all_map, List.all_eq_true]
  intro z _
  rfl
theorem vn_snoc (ws : List Nat) (w : Nat) : vn (ws ++ [w]) = vn ws ++ [.int (w : Int)] := by unfold vn; rw [List.map_append]; rfl
theorem vn_inj : ∀ {ws us : List Nat}, vn ws = vn us → ws = us
  | [], [], _ => rfl
  | [], _ :: _, h => by cases h
  | _ :: _, [], h => by cases h
  | w :: ws, u :: us, h => by
    have h1 := List.cons.inj h
    have e : (w : Int) = (u : Int) := V.int.inj h1.1
    rw [Int.ofNat.inj e, vn_inj h1.2]
theorem ints_fl3 (ns : List Int) : (ns.map V.int).all fl3 = true := by
  rw [List.all_map, List.all_eq_true]
  intro z _
  rfl
/-- a place or None -/
def vo : Option Nat → V
  | none => .non
  | some p => .int (p : Int)
def vos (l : List (Option Nat)) : List V := l.map vo
theorem vos_fl3 (l : List (Option Nat)) : (vos l).all fl3 = true := by
  unfold vos
  rw [List.all_map, List.all_eq_true]
  intro z _
  cases z <;> rfl
theorem vos_len (l : List (Option Nat)) : (vos l).length = l.length := List.length_map ..
theorem vos_snoc (l : List (Option Nat)) (o : Option Nat) : vos (l ++ [o]) = vos l ++ [vo o] := by unfold vos; rw [List.map_append]; rfl
theorem vos_at {l : List (Option Nat)} {i : Nat} {x : V} (h : (vos l)[i]? = some x) : ∃ o, x = vo o ∧ l[i]? = some o ∧ i < l.length := by
  unfold vos at h
  rw [List.getElem?_map] at h
  cases e : l[i]? with
  | none =>
    rw [e] at h
    cases h
  | some w =>
    rw [e] at h
    obtain ⟨hi, _⟩ := List.getElem?_eq_some_iff.mp e
    exact ⟨w, (Option.some.inj h).symm, rfl, hi⟩
theorem vo_inj {a b : Option Nat} (h : vo a = vo b) : a = b := by
  cases a with
  | none => cases b with
    | none => rfl
    | some q => cases h
  | some p => cases b with
    | none => cases h
    | some q => rw [Int.ofNat.inj (V.int.inj h)]
theorem vos_inj : ∀ {l m : List (Option Nat)}, vos l = vos m → l = m
  | [], [], _ => rfl
  | [], _ :: _, h => by cases h
  | _ :: _, [], h => by cases h
  | w :: ws, u :: us, h => by
    have h1 := List.cons.inj h
    rw [vo_inj h1.1, vos_inj h1.2]
theorem vos_some (ws : List Nat) : vos (ws.map some) = vn ws := by
  unfold vos vn
  rw [List.map_map]
  rfl
theorem take_succ_of {α : Type} {l : List α} {i : Nat} {x : α} (h : l[i]? = some x) : l.take (i + 1) = l.take i ++ [x] := by
  rw [List.take_add_one, h]
  rfl
end Wm

/-! ### conditional stores, pairs -/
namespace Wm
open PySem PySem.Spec PyProof.Rows L2 Evl
section
variable {K : Kf} {σ : L2.St} {H H' : Hp} {ta tb te tl tx : TE} {t u : TT} {x y z v : V} {D : Ends} {tz : TS}
/-- if c: x = e, told by a property of what x holds behind it -/
theorem q_ifP {b : Bool} {i : Nat} (P : V → Prop) (h : EvT t σ H b) (h1 : b = true → ∃ v, Ev te σ H v ∧ P v) (h2 : b = false → ∃ v, σ.set i (some v) = σ ∧ P v) (k : ∀ v H1, P v → Ex H H1 → tz D (σ.set i (some v)) H1) : tSeq (tIfS t (tAsg te (gName i)) tNext) tz D σ H :=
  q_when h (fun hb H1 e1 => by
    obtain ⟨v, hv, pv⟩ := h1 hb
    exact s_asg (D := { D with nx := tz D }) (hv.mono e1) fun H2 e2 => k v H2 pv (e1.trans e2)) (fun hb H1 e1 => by
    obtain ⟨v, hv, pv⟩ := h2 hb
    have g := k v H1 pv e1
    rw [hv] at g
    exact g)
/-- a, b = a pair that is made on the way -/
def EvPair (te : TE) (σ : L2.St) (H : Hp) (P : V → V → Hp → Prop) : Prop := ∀ H1, Ex H H1 → ∀ Q : VK, (∀ p x y H2, Ex H1 H2 → H2 p = some (.tup [x, y]) → P x y H2 → Q (.ref p) H2) → te σ H1 Q
theorem q_asg2 {i j : Nat} {P : V → V → Hp → Prop} (h : EvPair te σ H P) (k : ∀ x y H1, Ex H H1 → P x y H1 → tz D ((σ.set i (some x)).set j (some y)) H1) : tSeq (tAsg te (gTup K 2 (gCons (gName i) (gCons (gName j) gNil)))) tz D σ H :=
  h H (Ex.refl H) _ fun p x y H1 e hp hP => ⟨p, [x, y], rfl, st_of hp, rfl, x, [y], rfl, y, [], rfl, rfl, k x y H1 e hP⟩
theorem ep_call {sp : Sp} {E : XK} {ta : TA} {vs : List V} {P : V → V → Hp → Prop} (h : EvA ta σ H vs) (hs : ∀ H1, Ex H H1 → ∀ Q : VK, (∀ p x y H2, Ex H1 H2 → H2 p = some (.tup [x, y]) → P x y H2 → Q (.ref p) H2) → ∀ E : XK, sp vs H1 Q E) : EvPair (tCall sp [] E ta) σ H P := fun H1 e Q q =>
  h H1 e _ fun H2 e2 => by
    rw [List.append_nil]
    exact hs H2 (e.trans e2) Q (fun p x y H3 e3 hp hP => q p x y H3 (e2.trans e3) hp hP) E
theorem mod_nat (c : Int) {m : Int} {n : Nat} (h : 0 < m) (hm : m ≤ n) : ∃ w : Nat, c % m = (w : Int) ∧ w < n := by
  have h1 := Int.emod_nonneg c (show m ≠ 0 by omega)
  have h2 := Int.emod_lt_of_pos c h
  exact ⟨(c % m).toNat, by omega, by omega⟩
theorem tuple_ret {xs : List V} {Q : VK} (h : EvU te σ H xs) (k : ∀ p H1, H p = none → Ex H H1 → H1 p = some (.tup xs) → Q (.ref p) H1) : tRet te { nx := D.nx, rt := Q } σ H := s_retU (D := { nx := D.nx, rt := Q }) h k
end
end Wm

/-! ### exceptions: what is refused, the word that a suite tells of it -/
namespace Wm
open PySem PySem.Spec PyProof.Rows L2 Evl
/-- an own class of exceptions, as raise asks it -/
structure Exc (K : Kf) (mg : Mg) (c : Str) : Prop where
  g : mg c = some (.ref (He.ga K c))
  x : PySem.W.excIn K (He.ga K c) He.veBase "ValueError.__new__" = true
  k : PySem.W.keepIn K (.ref (He.ga K c)) = true
  b : PySem.W.subIn K (.ref (He.ga K c)) (.type "BaseException") = some true
  t : PySem.W.typeIn K (.ref (He.ga K c)) = some (.type "type")
theorem exc_of {K : Kf} {mg : Mg} {c : Str} (g : mg c = some (.ref (He.ga K c))) (h : (He.Fa.exc c).ok K = true) : Exc K mg c := by
  obtain ⟨h1, h2, h3, h4⟩ := He.exc_ok h
  exact ⟨g, h1, h2, h3, h4⟩
def classAt : Nat → Str
  | 0 => "NoQuay"
  | 1 => "NoRow"
  | 2 => "NoOutcome"
  | 3 => "NoTree"
  | 4 => "NoRank"
  | _ => "NoNote"
def wordAt : Nat → Str
  | 0 => "quay"
  | 1 => "row"
  | 2 => "outcome"
  | 3 => "tree"
  | 4 => "rank"
  | _ => "note"
/-- the class at D is the i-th one, and no other of them -/
structure IsWord (K : Kf) (D : Addr) (i : Nat) : Prop where
  c : ExcC K D
  kit : ∀ j, j < 6 → PySem.W.kitOne K (.ref D) (.ref (He.ga K (classAt j))) = some (decide (j = i))
  ve : PySem.W.kitOne K (.ref D) (.type "ValueError") = some true
  moor : PySem.W.exmOne K (.ref D) (.ref (He.ga K "MoorError")) = some true
def excCB (K : Kf) (D : Addr) : Bool :=
  decide (PySem.W.findIn K (.ref D) "__getattribute__" = some (some (.builtin "BaseException.__getattribute__"))) && (decide (PySem.W.findIn K (.ref D) "__getattr__" = some none) && (decide (PySem.W.subIn K (.ref D) (.type "BaseException") = some true) && (PySem.W.hasDictIn K D && (decide (PySem.W.findIn K (.ref D) "__class__" = some (some (.builtin "object.__class__"))) && (decide (PySem.W.specialIn K (.builtin "object.__class__") "__get__" = some (some (.builtin "getset_descriptor.__get__"))) && (decide (PySem.W.takesIn K (.builtin "object.__class__") = some true) && decide (PySem.W.mroIn K D (.type "object") = some true)))))))
theorem excCB_ok {K : Kf} {D : Addr} (h : excCB K D = true) : ExcC K D := by
  obtain ⟨h1, h⟩ := He.ba h
  obtain ⟨h2, h⟩ := He.ba h
  obtain ⟨h3, h⟩ := He.ba h
  obtain ⟨h4, h⟩ := He.ba h
  obtain ⟨h5, h⟩ := He.ba h
  obtain ⟨h6, h⟩ := He.ba h
  obtain ⟨h7, h8⟩ := He.ba h
  exact ⟨of_decide_eq_true h1, of_decide_eq_true h2, of_decide_eq_true h3, h4, of_decide_eq_true h5, of_decide_eq_true h6, of_decide_eq_true h7, of_decide_eq_true h8⟩
def isWordB (K : Kf) (i : Nat) : Bool :=
  excCB K (He.ga K (classAt i)) && ((List.range 6).all (fun j => decide (PySem.W.kitOne K (.ref (He.ga K (classAt i))) (.ref (He.ga K (classAt j))) = some (decide (j = i)))) && (decide (PySem.W.kitOne K (.ref (He.ga K (classAt i))) (.type "ValueError") = some true) && decide (PySem.W.exmOne K (.ref (He.ga K (classAt i))) (.ref (He.ga K "MoorError")) = some true)))
theorem isWord_ok {K : Kf} {i : Nat} (h : isWordB K i = true) : IsWord K (He.ga K (classAt i)) i := by
  obtain ⟨h1, h⟩ := He.ba h
  obtain ⟨h2, h⟩ := He.ba h
  obtain ⟨h3, h4⟩ := He.ba h
  exact ⟨excCB_ok h1, fun j hj => of_decide_eq_true (List.all_eq_true.mp h2 j (List.mem_range.mpr hj)), of_decide_eq_true h3, of_decide_eq_true h4⟩
def wordsB (K : Kf) : Bool := (List.range 6).all (fun i => isWordB K i && (He.Fa.exc (classAt i)).ok K)
structure Words (K : Kf) : Prop where
  w : ∀ i, i < 6 → IsWord K (He.ga K (classAt i)) i
  x : ∀ i, i < 6 → (He.Fa.exc (classAt i)).ok K = true
theorem words_ok {K : Kf} (h : wordsB K = true) : Words K :=
  ⟨fun i hi => isWord_ok (He.ba (List.all_eq_true.mp h i (List.mem_range.mpr hi))).1, fun i hi => (He.ba (List.all_eq_true.mp h i (List.mem_range.mpr hi))).2⟩
/-! a def that is called while the exception p is handled -/
structure FnP (P : Program) (w : World) (K : Kf) (mg : Mg) (base : Heap) (k : Nat) (f : Addr) (fd : FuncData) (ps : List Str) (p : Addr × Obj) (sp : Sp) : Prop where
  len : ∀ vs H Q E, sp vs H Q E → vs.length = ps.length
  run : ∀ (A : Around) (outer : List Env) (s : Shared) (H : Hp) (args : Args) (us : List Value) (vs : List V) (Q : VK) (E : XK), L2H.RoomH k A → L2H.PinOk outer H s p → Env0 P w K mg base A outer s H → BindsTo s fd args (ps.zip us) → Vals vs us → sp vs H Q E → codeAny (model P w) A (.call (.ref f) args) (CR CX0 outer P w H s Q E) s
structure OwnP (P : Program) (w : World) (K : Kf) (mg : Mg) (base : Heap) (k : Nat) (x : Str) (ps : List Str) (sp : Addr × Obj → Sp) : Prop where
  ex : ∃ (f : Addr) (fd : FuncData), (∀ p, FnP P w K mg base k f fd ps p (sp p)) ∧ mg x = some (.ref f) ∧ PySem.W.keepIn K (.ref f) = true ∧ Binds K fd ps []
section
variable {P : Program} {w : World} {K : Kf} {mg : Mg} {base : Heap}
theorem pinned_of {k : Nat} {f : Addr} {nm ql : Str} {prm : Arguments} {bd : List Stmt} {sc : Scope} {u1 u2 u3 u4 cv u5 o1 : Value} {n1 o2 : Option Addr} {sl : Array (Option Value)} {N ps : List Str} {p : Addr × Obj} {sp : Sp}
    (lk : K.lookup f = some ⟨o1, o2, .func (PySem.W.fnOf nm ql prm bd sc u1 u2 u3 u4 n1 cv u5), sl⟩) (hc : PySem.W.codeIn K cv ql = true) (S : FnScope N ps sc) (len : ∀ vs H Q E, sp vs H Q E → vs.length = ps.length)
    (body : ∀ (A : Around) (outer : List Env) (s : Shared) (H : Hp) (vs : List V) (Q : VK) (E : XK), L2H.RoomH k (A.deeper (envOfC ql sc s.heap.objs.size f cv)) → sp vs H Q E → ∃ t, PSs (L2H.cxH CX0 P w K mg base N ql sc f cv A outer s H E p) bd t ∧ t { nx := fun _ H' => Q .non H', rt := Q } (start N vs) H) :
    FnP P w K mg base (k + 1) f (PySem.W.fnOf nm ql prm bd sc u1 u2 u3 u4 n1 cv u5) ps p sp := by
  constructor
  · exact len
  intro A outer s H args us vs Q E room pin e0 bnd vals h
  have inH : K.In s.heap := e0.mod.kin.keeps fun b o z => (e0.bs b o z).1
  have lims : s.heap.NoLimit := e0.mod.nolimit.keeps fun b o z => (e0.bs b o z).1
  have kinds : ∀ y ∈ ps.zip us, sc.names.lookup y.1 = some .local ∨ (sc.names.lookup y.1 = some .cell ∧ ((cellsFrom (s.heap.objs.size + 1) sc.names []).lookup y.1).isSome = true) := by
    rintro ⟨n, v⟩ hy
    rcases S.par n (List.of_mem_zip hy).1 with q | q
    · exact Or.inl q
    · exact Or.inr ⟨q, PySem.W.cellsFrom_some _ _ _ (Or.inl q)⟩
  refine codeAny_call_function room.depth (inH _ _ lk) rfl S.co S.gen rfl (PySem.W.codeRec_of inH hc) (bnd _ _ _ _ (wpAny_newFunctionEnv_cells S.kind kinds fun env he s1 x => ?_))
  cases he
  refine ⟨lims.keeps x.toInCall.keep, codeAny_func ?_⟩
  obtain ⟨t, hd, hq⟩ := body A outer s H vs Q E (room.deeper _) h
  have I := L2H.inv_startH (CX := CX0) (P := P) (w := w) (mg := mg) (base := base) (E := E) (f := f) (cd := cv) S pin e0 (len _ _ _ _ h) vals x
  refine wpAny_mono (hd.run [] s1 _ H _ I hq) (fun fl s2 g => ?_) (fun _ _ g => g)
  cases fl with
  | ret u =>
    obtain ⟨v, σ2, H2, J, r2, q2⟩ := g
    exact ⟨v, H2, J.os, J.bare, J.base, J.hok, r2, q2⟩
  | next =>
    obtain ⟨σ2, H2, J, q2⟩ := g
    exact ⟨.non, H2, J.os, J.bare, J.base, J.hok, rfl, q2⟩
  | brk =>
    obtain ⟨_, _, _, q2⟩ := g
    exact q2.elim
  | cont =>
    obtain ⟨_, _, _, q2⟩ := g
    exact q2.elim
theorem Def.pinned {x : Str} {st : Stmt} {N ps : List Str} {k : Nat} {sp : Addr × Obj → Sp} (D : Def K mg x st) (S : FnScope N ps (defScope st)) (b : BindsWell x st ps) (len : ∀ p vs H Q E, sp p vs H Q E → vs.length = ps.length)
    (body : ∀ (p : Addr × Obj) (f : Addr) (cdv : Value) (A : Around) (outer : List Env) (s : Shared) (H : Hp) (vs : List V) (Q : VK) (E : XK), L2H.RoomH k (A.deeper (envOfC x (defScope st) s.heap.objs.size f cdv)) → sp p vs H Q E →
      ∃ t, PSs (L2H.cxH CX0 P w K mg base N x (defScope st) f cdv A outer s H E p) (defBody st) t ∧ t { nx := fun _ H' => Q .non H', rt := Q } (start N vs) H) : OwnP P w K mg base (k + 1) x ps sp := by
  obtain ⟨f, fd, F, m⟩ := D.ex
  have bn := F.bindsN b
  have kp := F.kp
  obtain ⟨oc, od, dV, kV, doc, pm, an, cdv, ct, osl, rfl, lk, hcd, _, _⟩ := F.ex
  exact ⟨f, _, fun p => pinned_of lk hcd S (len p) fun A outer s H vs Q E hr h => body p f cdv A outer s H vs Q E hr h, m, kp, bn⟩
end
section
variable {X : Cx}
theorem pe_imp {e : Expr} {te te' : TE} (h : PE X e te) (k : ∀ σ H Q, te' σ H Q → te σ H Q) : PE X e te' := ⟨fun pins s σ H Q I g => h.run pins s σ H Q I (k σ H Q g)⟩
/-- a call while p is handled -/
theorem pe_callP {k : Nat} {ps : List Str} {sp : Addr × Obj → Sp} {x : Str} {q pos : Pos} {e : Expr} {es : List Expr} {t : TA} {p : Addr × Obj} (hp : p ∈ X.pn) (O : OwnP X.prog X.w X.K X.mg X.base k x ps sp) (hr : L2H.RoomH k X.A) (ha : PA X (e :: es) t) (hg : Gl X x := by rfl) (hdb : (x == ("__debug__" : Str)) = false := by decide) (he : starEach (e :: es) X.env = (false, eval e X.env) :: starEach es X.env := by rfl) (hpl : (backTo pos (starEach es X.env)).any (·.1) = false := by rfl) :
    PE X (.Call (.Name x q) (e :: es) [] pos) (fun σ H Q => t σ H fun vs H1 => sp p vs H1 Q E0) := by
  obtain ⟨f, fd, G, m, kp, b⟩ := O.ex
  constructor
  intro pins s σ H Q I h
  refine wpAny_Call_Name_kw (ld_glob I hg m ?_ hdb)
  refine PySem.W.callWith_K (h₀ := X.base) I.ok.mod.kin kp (thn (ha.run pos pins s σ H _ I h) fun us s1 z => ?_) he hpl
  obtain ⟨vs, H1, I1, r, g⟩ := z
  refine ⟨I1.kIn, ?_⟩
  have hl : us.length = ps.length := by
    rw [← r.length]
    exact (G p).len _ _ _ _ g
  have bb := b s1 us I1.kIn (by rw [List.append_nil]; exact hl)
  rw [List.append_nil] at bb
  have P1 := I1.pin p (List.mem_append_left _ hp)
  have pin : L2H.PinOk X.stack H1 s1 p := ⟨P1.1, P1.2.1, fun hm => (List.mem_cons.mp (I1.stkSub p.1 hm)).elim P1.2.2.1 P1.2.2.2.1, P1.2.2.2.2⟩
  refine wpAny_call (codeAny_mono ((G p).run X.A X.stack s1 H1 ⟨us, []⟩ us vs Q E0 hr pin I1.env0 bb r g) fun rs s2 hq => ?_)
  cases rs with
  | error e => exact hq.elim
  | ok fl =>
    cases fl with
    | ret u => exact I1.after hq
    | next => exact hq.elim
    | brk => exact hq.elim
    | cont => exact hq.elim
/-- isinstance(e, c), e the exception that is handled -/
theorem call_isP {p : Addr × Obj} {D : Addr} (hp : p ∈ X.pn) (C : ExcC X.K D) (hz : Zc (.ref D) none p.2) (hf : ∃ vs, p.2.data = .fields vs) : CallR X (.builtin "isinstance") (rIsE X.K D p.1) := by
  intro pins s σ H xs us Q I r h
  obtain ⟨c, cv, b, rfl, hcv, hk, q⟩ := h
  cases r with
  | cons rx rr =>
    cases rr with
    | cons rt rr2 =>
      cases rr2
      cases rx
      have ec := hcv _ rt
      subst ec
      have hget := (I.pin p (List.mem_append_left _ hp)).1
      have J : PySem.W.InstAt s.heap p.1 p.2 D none := by
        obtain ⟨vs, hv⟩ := hf
        obtain ⟨pa, po⟩ := p
        obtain ⟨oc, od, dt, sl⟩ := po
        obtain ⟨h1, h2⟩ := hz
        dsimp only at h1 h2 hv hget
        subst h1 h2 hv
        exact ⟨hget, rfl, rfl, trivial⟩
      exact PySem.W.kia_one (PySem.W.handS_kitx_exc C.hg C.hk C.hs C.hd C.ha C.hn C.ht C.hm) I.kIn J hk (fun z => nomatch z) fun tk => ⟨.bl b, H, I.kept (t' := tk) fun _ _ z => z, rfl, q⟩
/-- xs.count(b), bools -/
def rCntB (K : Kf) : V → List V → Hp → VK → Prop := fun x xs H Q => ∃ (p : Addr) (bs : List Bool) (k : Bool), x = .ref p ∧ xs = [.bl k] ∧ SqL K H p (bs.map V.bl) ∧ Q (.int ((bs.count k : Nat) : Int)) H
theorem bools_of : ∀ {bs : List Bool} {us : List Value}, Vals (bs.map V.bl) us → us = bs.map Value.bool
  | [], _, .nil => rfl
  | b :: bs, _, .cons r t => by
    cases r
    rw [bools_of t]
    rfl
theorem mt_cntB : MtR X "list.count" (rCntB X.K) := by
  intro pins s σ H x xs v us Q I rx rxs h
  obtain ⟨p, bs, k, rfl, rfl, hs, q⟩ := h
  cases rx
  obtain ⟨u, rfl, ru⟩ := rxs.one
  cases ru
  obtain ⟨its, rv, pl, hlen⟩ := I.list hs
  obtain ⟨⟨cls, dd, data, sl⟩, n, ho, hc, hdn, hd⟩ := pl
  simp only at hc hd
  subst hc hd
  have hb := bools_of rv
  subst hb
  refine call_meets PySem.F.slot_list_count ⟨_, ho, rfl⟩ PySem.F.entry_list_count (PySem.F.args_list_count_2 _ _) (SeqAt.list_countAt p (bs.map Value.bool).toArray n dd sl (.bool k) (fun y => decide (y = Value.bool k))) ⟨ho, fun y hy => ?_, ?_⟩
  · have hy2 : y ∈ bs.map Value.bool := by simpa using hy
    obtain ⟨c, _, rfl⟩ := List.mem_map.mp hy2
    have e : decide (Value.bool c = Value.bool k) = (c == k) := by cases c <;> cases k <;> rfl
    rw [e]
    exact SeqAt.EqAt.bool_bool c k
  · have e : (bs.map Value.bool).toArray.toList.countP (fun y => decide (y = Value.bool k)) = bs.count k := by
      rw [List.toList_toArray, List.countP_map, List.count]
      refine List.countP_congr fun c _ => ?_
      show decide (Value.bool c = Value.bool k) = true ↔ (c == k) = true
      cases c <;> cases k <;> decide
    refine ⟨.int ((bs.count k : Nat) : Int), H, I.tok _, ⟨s.toks, ?_⟩, q⟩
    show Value.int (((bs.map Value.bool).toArray.toList.countP (fun y => decide (y = Value.bool k)) : Nat) : Int) s.toks = Value.int ((bs.count k : Nat) : Int) s.toks
    rw [e]
/-- return word(e), in the suite of the exception a -/
def tWord (K : Kf) (a : Addr) (cls : Value) (d : Option Addr) (te : TE) : TE := fun σ H Q => te σ H fun v H1 => v = .ref a ∧ ∃ D i, cls = .ref D ∧ d = none ∧ i < 6 ∧ IsWord K D i ∧ ∀ H', Ex H1 H' → Q (.str (wordAt i)) H'
def sp_l_word_of (K : Kf) (p : Addr × Obj) : Sp := fun vs H Q _ => ∃ D i, vs = [.ref p.1] ∧ Zc (.ref D) none p.2 ∧ (∃ fs, p.2.data = .fields fs) ∧ i < 6 ∧ IsWord K D i ∧ RetV (.str (wordAt i)) H Q
theorem pe_word {k : Nat} {x : Str} {q pos : Pos} {e : Expr} {te : TE} {a : Addr} {oe : Obj} {cls : Value} {d : Option Addr} {pn : List (Addr × Obj)} (O : OwnP X.prog X.w X.K X.mg X.base k x ["e"] (sp_l_word_of X.K)) (hr : Room k X.A) (hz : Zc cls d oe) (hf : ∃ vs, oe.data = .fields vs) (ha : PE (X.suite a ((a, oe) :: pn)) e te) (hg : Gl (X.suite a ((a, oe) :: pn)) x := by rfl) (hdb : (x == ("__debug__" : Str)) = false := by decide) (he : starEach [e] X.env = (false, eval e X.env) :: starEach [] X.env := by rfl) (hpl : (backTo pos (starEach [] X.env)).any (·.1) = false := by rfl) :
    PE (X.suite a ((a, oe) :: pn)) (.Call (.Name x q) [e] [] pos) (tWord X.K a cls d te) := by
  refine pe_imp (pe_callP (X := X.suite a ((a, oe) :: pn)) (p := (a, oe)) List.mem_cons_self O ⟨hr.dp, hr.un⟩ (pa_cons ha pa_nil he) hg hdb he hpl) fun σ H Q g => ?_
  show te σ H fun v H1 => sp_l_word_of X.K (a, oe) [v] H1 Q E0
  have key : (fun v H1 => v = V.ref a ∧ ∃ D i, cls = .ref D ∧ d = none ∧ i < 6 ∧ IsWord X.K D i ∧ ∀ H', Ex H1 H' → Q (.str (wordAt i)) H') = fun v H1 => sp_l_word_of X.K (a, oe) [v] H1 Q E0 := by
    funext v H1
    refine propext ⟨?_, ?_⟩
    · rintro ⟨rfl, D, i, rfl, rfl, hi, hw, hq⟩
      exact ⟨D, i, rfl, hz, hf, hi, hw, hq⟩
    · rintro ⟨D, i, e1, ⟨z1, z2⟩, _, hi, hw, hq⟩
      refine ⟨(List.cons.inj e1).1, D, i, ?_, ?_, hi, hw, hq⟩
      · rw [← hz.1]
        exact z1
      · rw [← hz.2]
        exact z2
  rw [← key]
  exact g
/-- a call of an own def that may raise, in a try -/
theorem pe_ownS {CX : CXT} {k : Nat} {ps : List Str} {sp : Sp} {E : L2.St → XK} {x : Str} {p pos : Pos} {e : Expr} {es : List Expr} {t : TA} (F : Own X.prog X.w X.K X.mg X.base CX k x ps sp) (hr : Room k X.A) (hx : ∀ σ, PassesAt CX X σ (E σ)) (ha : PA X (e :: es) t) (hg : Gl X x := by rfl) (hdb : (x == ("__debug__" : Str)) = false := by decide)
    (he : starEach (e :: es) X.env = (false, eval e X.env) :: starEach es X.env := by rfl) (hpl : (backTo pos (starEach es X.env)).any (·.1) = false := by rfl) : PE X (.Call (.Name x p) (e :: es) [] pos) (tCallS sp E t) := by
  obtain ⟨f, fd, G, m, kp, b⟩ := F.ex
  exact pe_callS G hr hg m kp b hx ha hdb he hpl
end
/-! readings -/
section
variable {K : Kf} {σ : L2.St} {H H' : Hp} {ta tb te tl tx : TE} {t u : TT} {x y z v : V} {D : Ends} {tz tu : TS} {r : R2}
/-- whatever is wished of the value: it raises -/
def Rz (te : TE) (σ : L2.St) (H : Hp) : Prop := ∀ H1, Ex H H1 → ∀ Q : VK, te σ H1 Q
theorem Rz.mono (h : Rz te σ H) (e : Ex H H') : Rz te σ H' := fun H1 e1 Q => h H1 (e.trans e1) Q
theorem rz_call {sp : Sp} {E : XK} {ta : TA} {vs : List V} (h : EvA ta σ H vs) (hs : ∀ H1, Ex H H1 → ∀ Q : VK, sp vs H1 Q E) : Rz (tCall sp [] E ta) σ H := fun H1 e Q => h H1 e _ fun H2 e2 => by
  rw [List.append_nil]
  exact hs H2 (e.trans e2) Q
theorem rz_callN {sp : Sp} {E : XK} {xs : List V} (h : EvL ta σ H xs) (hs : ∀ p H1, Ex H H1 → H1 p = some (.lst xs) → ∀ Q : VK, sp [.ref p] H1 Q E) : Rz (tCall sp [] E (tCons ta tNil)) σ H := fun H1 e Q => h H1 e _ fun p H2 np e2 hp => hs p H2 (e.trans e2) hp Q
theorem rz_op2 (ha : Ev ta σ H x) (hb : Rz tb σ H) : Rz (tOp r ta tb) σ H := fun H1 e Q => ha H1 e _ fun H2 e2 => hb H2 (e.trans e2) _
theorem rz_op1 (ha : Rz ta σ H) : Rz (tOp r ta tb) σ H := fun H1 e Q => ha H1 e _
theorem rz_cb1 {rc : List V → Hp → VK → Prop} (ha : Rz ta σ H) : Rz (tCB rc (tCons ta tNil)) σ H := fun H1 e Q => ha H1 e _
theorem s_dropR (h : Rz te σ H) : tDrop te D σ H := h H (Ex.refl H) _
theorem q_dropR (h : Rz te σ H) : tSeq (tDrop te) tz D σ H := h H (Ex.refl H) _
theorem s_retR (h : Rz te σ H) : tRet te D σ H := h H (Ex.refl H) _
theorem q_asgR0 {i : Nat} (h : Rz te σ H) : tSeq (tAsg te (gName i)) tz D σ H := h H (Ex.refl H) _
/-- a call in a try, dropped -/
theorem s_dropS {sp : Sp} {E : L2.St → XK} {ta : TA} {vs : List V} (h : EvA ta σ H vs) (hs : ∀ H1, Ex H H1 → sp vs H1 (fun _ H2 => D.nx σ H2) (E σ)) : tDrop (tCallS sp E ta) D σ H := h H (Ex.refl H) _ fun H2 e2 => hs H2 e2
/-- what the clause wishes: the word is handed back -/
theorem word_wish {i : Nat} {c : Addr} {Wout : WX} {D : Ends} {ix : Nat} (hw : IsWord K c ix) (hix : ix < 6) (hi : i < σ.length) (k : ∀ H', Ex H H' → D.rt (.str (wordAt ix)) H') : wAs K (.ref (He.ga K "MoorError")) i (fun a cls d => tRet (tWord K a cls d (tVar i))) Wout D (.ref c) none σ H := by
  refine ⟨true, hw.moor, fun _ a na => ?_, fun z => by cases z⟩
  refine ⟨.ref a, ?_, rfl, c, ix, rfl, rfl, hix, hw, k⟩
  rw [List.getElem?_set_self hi]
theorem word_wish1 {i : Nat} {c : Addr} {Wout : WX} {D : Ends} {ix : Nat} (hw : IsWord K c ix) (hix : ix < 6) (hi : i < σ.length) (k : ∀ H', Ex H H' → D.rt (.str (wordAt ix)) H') : wAs K (.ref (He.ga K "MoorError")) i (fun a cls d => tRet (tWord K a cls d (tVar i))) Wout D (.ref c) none σ H := word_wish hw hix hi k
theorem q_whenN {b : Bool} (N : L2.St → Hp → Prop) (h : EvT t σ H b) (hk : ∀ σ' H', N σ' H' → tz D σ' H') (h1 : b = true → ∀ H1, Ex H H1 → (∀ σ' H', N σ' H' → tz D σ' H') → tu { D with nx := tz D } σ H1) (h2 : b = false → ∀ H1, Ex H H1 → N σ H1) : tSeq (tIfS t tu tNext) tz D σ H :=
  q_when h (fun hb H1 e1 => h1 hb H1 e1 hk) fun hb H1 e1 => hk _ _ (h2 hb H1 e1)
theorem q_ifN {tw : TS} {b : Bool} (N : L2.St → Hp → Prop) (h : EvT t σ H b) (hk : ∀ σ' H', N σ' H' → tz D σ' H') (h1 : b = true → ∀ H1, Ex H H1 → (∀ σ' H', N σ' H' → tz D σ' H') → tu { D with nx := tz D } σ H1) (h2 : b = false → ∀ H1, Ex H H1 → (∀ σ' H', N σ' H' → tz D σ' H') → tw { D with nx := tz D } σ H1) : tSeq (tIfS t tu tw) tz D σ H :=
  q_if h (fun hb H1 e1 => h1 hb H1 e1 hk) fun hb H1 e1 => h2 hb H1 e1 hk
theorem ev_isE {a D0 C : Addr} {b : Bool} (ha : Ev ta σ H (.ref a)) (hb : Ev tb σ H (.ref C)) (hk : PySem.W.kitOne K (.ref D0) (.ref C) = some b) : Ev (tCB (rIsE K D0 a) (tCons ta (tCons tb tNil))) σ H (.bl b) := fun H1 e Q q =>
  ha H1 e _ fun H2 e2 => hb H2 (e.trans e2) _ fun H3 e3 => ⟨.ref C, .ref C, b, rfl, fun u r => by cases r; rfl, hk, q H3 (e2.trans e3)⟩
theorem ev_isEV {a D0 : Addr} {b : Bool} (ha : Ev ta σ H (.ref a)) (hk : PySem.W.kitOne K (.ref D0) (.type "ValueError") = some b) : Ev (tCB (rIsE K D0 a) (tCons ta (tCons (tC (.ty "ValueError")) tNil))) σ H (.bl b) := fun H1 e Q q =>
  ha H1 e _ fun H2 e2 => ⟨.ty "ValueError", .type "ValueError", b, rfl, fun u r => by cases r; rfl, hk, q H2 e2⟩
theorem ev_cntB {p : Addr} {bs : List Bool} {k : Bool} (ha : Ev ta σ H (.ref p)) (hb : Ev tb σ H (.bl k)) (hS : H p = some (.lst (bs.map V.bl))) : Ev (tBM K "list" (rCntB K) ta (tCons tb tNil)) σ H (.int ((bs.count k : Nat) : Int)) := fun H1 e Q q =>
  ha H1 e _ fun H2 e2 => ⟨Or.inl ⟨rfl, _, sq_of (e2 _ _ (e _ _ hS))⟩, hb H2 (e.trans e2) _ fun H3 e3 => ⟨p, bs, k, rfl, rfl, sq_of (e3 _ _ (e2 _ _ (e _ _ hS))), q H3 (e2.trans e3)⟩⟩
def marks (i : Nat) : List Bool := (List.range 6).map fun j => decide (j = i)
theorem ev_idxB {p : Addr} {i : Nat} (hi : i < 6) (ha : Ev ta σ H (.ref p)) (hb : Ev tb σ H (.bl true)) (hS : H p = some (.lst ((marks i).map V.bl))) : Ev (tBM K "list" (rIndex K) ta (tCons tb tNil)) σ H (.int (i : Int)) := fun H1 e Q q =>
  ha H1 e _ fun H2 e2 => ⟨Or.inl ⟨rfl, _, sq_of (e2 _ _ (e _ _ hS))⟩, hb H2 (e.trans e2) _ fun H3 e3 => ⟨p, (marks i).map V.bl, .bl true, i, .bl true, rfl, rfl, sq_of (e3 _ _ (e2 _ _ (e _ _ hS))), rfl, by
    rw [List.all_map, List.all_eq_true]
    intro _ _
    rfl, by
    unfold marks
    rw [List.getElem?_map, List.getElem?_map, List.getElem?_range hi]
    show some (V.bl (decide (i = i))) = _
    rw [decide_eq_true rfl], rfl, fun m z hm hz => by
    unfold marks at hz
    rw [List.getElem?_map, List.getElem?_map, List.getElem?_range (by omega)] at hz
    cases hz
    show (decide (m = i) == true) = false
    rw [decide_eq_false (by omega)]
    rfl, q H3 (e2.trans e3)⟩⟩
end
end Wm

/-! ### a comprehension out of whose element an exception may go: block_passes is new; lc_hot and ps_setLcH are HandS.Comp's rules for calm elements, carried over to it -/
namespace Wm
open PySem PySem.Spec PyProof.Rows L2 Evl
/-- what the block wishes of an exception -/
abbrev outOf (X : Cx) (ce : Env) : Value → Shared → Prop := notedBy (model X.prog X.w) X.A ce (CompFails (model X.prog X.w) X.A X.xe ce)
abbrev blkH (X : Cx) (s : Shared) (H : Hp) (scope : Scope) (ce : Env) (fp : List Addr) : Cx := (X.blk s H scope ce fp).wish (outOf X ce)
section
variable {X : Cx} {σ : L2.St} {H : Hp} {pins : List (Addr × Obj)} {s : Shared}
/-- the ground with one object put in another's stead -/
theorem put_at {h : Heap} {a : Addr} {o o2 : Obj} (e : h.get? a = some o) (hf : o2.isFreed = false) : (h.update a fun _ => o2).get? a = some o2 := Heap.get?_update_self (fun _ => o2) e hf
theorem put_ne {h : Heap} {a b : Addr} {o2 : Obj} (hb : b ≠ a) : (h.update a fun _ => o2).get? b = h.get? b := Heap.get?_update_other h _ (Ne.symm hb)
theorem not_frame (I : Inv X pins σ H s) {b : Addr} (hb : s.heap.objs.size ≤ b) : b ∉ frs X.stack := fun hm => by
  obtain ⟨_, o, ho, _⟩ := I.stack.mem hm
  exact absurd (Nat.lt_of_lt_of_le (Heap.lt_size ho) hb) (Nat.lt_irrefl _)
/-- in the air over the frames, and no other way -/
theorem sky_flies {B B0 : Heap} {l l0 : List Env} {a L : Addr} {Z Z0 : Obj → Prop} {h : Heap} (x : Sky B l a Z L h) (fl : HandSPX.FlyingZ B0 l0 a Z0 h) : HandSPX.FlyingZ B l a Z h := by
  obtain ⟨_, _, _, oe, vs, T, oT, ts, he, _, hd, h1, _, _, hT, hdT, h3⟩ := fl
  rcases x with ⟨_, _, _, oe', vs', he', _, hd', h1'⟩ | x | ⟨_, _, _, oe', vs', T', oT', ts', he', _, hd', h1', _, _, hT', hdT', h3'⟩
  · rw [he] at he'
    cases he'
    rw [hd] at hd'
    cases hd'
    rw [h1] at h1'
    cases h1'
  · exact x
  · rw [he] at he'
    cases he'
    rw [hd] at hd'
    cases hd'
    rw [h1] at h1'
    cases h1'
    rw [hT] at hT'
    cases hT'
    rw [hdT] at hdT'
    cases hdT'
    rw [h3] at h3'
    cases h3'
/-- what a call in the element lets out goes out of the def -/
theorem block_passes {E : XK} {scope : Scope} {fp : List Addr} {ce : Env} (tk : Takes X fun cls d _ H => E cls d H) (hst : X.stack = X.env :: X.outer) (hf : X.env.frame = some X.env.locals) (I : Inv X pins σ H s) (hfp : ∀ b ∈ fp, FpOk X pins H b) (hce : ce.frame = X.env.frame) (hL : ce.locals = s.heap.objs.size) :
    Passes (CX X.prog X.w) (blkH X s H scope ce fp) E := by
  intro pb sb Hb s1 u s' IB c
  have x := XE.of_call (W := fun cls d _ H => E cls d H) IB (fun _ _ _ z => z) c
  obtain ⟨a0, B0, _, _, _, e0, fl0, _⟩ := c
  obtain ⟨a, B, sI, pb2, sb2, HI, cls, d, eu, II, nb, up, sky, na, os, ag, hE⟩ := x
  have ea : a = a0 := Value.ref.inj (eu.symm.trans e0)
  subst ea
  subst eu
  have fl : HandSPX.FlyingZ B (X.env :: X.outer) a (Zc cls d) s'.heap := by
    have z := sky_flies sky fl0
    rw [← hst]
    exact z
  show wpAny _ X.A (noteFrame (.ref a) ce) _ _ s'
  rw [noteFrame_env _ hce]
  have hfr : X.A.frames = some (X.env :: X.outer) := by rw [I.ok.frames, hst]
  refine HandSPX.looks_onZ Zc.steady hfr hf fl fun h1 held1 up1 => ?_
  obtain ⟨mC, hnC, _⟩ := II.loc
  have hnC : sI.heap.Ns ce.locals mC := hnC
  have hn1 : h1.Ns ce.locals mC := (up.trans up1).ns hnC
  refine ⟨mC, hn1, fun h2 m2 hn2 sb2 => ?_⟩
  obtain ⟨oC, _, _, hoC, _⟩ := id hnC
  obtain ⟨o2, _, _, ho2, hd2, _⟩ := id hn2
  have hfree2 : o2.isFreed = false := by
    clear ho2
    obtain ⟨_, _, dt, _⟩ := o2
    have hd2 : dt = _ := hd2
    subst hd2
    rfl
  have hCs : ce.locals ∉ frs X.stack := not_frame I (Nat.le_of_eq hL.symm)
  have hBC : B.get? ce.locals = some oC := nb _ _ hoC hCs
  have neC : ∀ b, B.get? b = none → b ≠ ce.locals := fun b hb z => by
    rw [z, hBC] at hb
    cases hb
  obtain ⟨g1, g2, g3, oe, vs, T, oT, ts, he, hz, hd, hv, hnT, hTe, hT, hdT, h3⟩ := held1
  have haC := neC a g2
  have hTC := neC T hnT
  have he2 : h2.get? a = some oe := (sb2.2 a haC).trans he
  have hT2 : h2.get? T = some oT := (sb2.2 T hTC).trans hT
  have hB2o : ∀ b, b ≠ ce.locals → (B.update ce.locals fun _ => o2).get? b = B.get? b := fun b hb => put_ne hb
  have hB2C : (B.update ce.locals fun _ => o2).get? ce.locals = some o2 := put_at hBC hfree2
  have hI2C : (sI.heap.update ce.locals fun _ => o2).get? ce.locals = some o2 := put_at hoC hfree2
  have fr2 : h2.FunFrames (B.update ce.locals fun _ => o2) (X.env :: X.outer) := by
    refine funFrames_none (Heap.FunFrames.sameBut sb2 hn2 g3) fun L hm => ?_
    have hLn : B.get? L = none := (g3.mem hm).1
    rw [hB2o L (neC L hLn)]
    exact hLn
  have held2 : HandSPX.HeldZ (B.update ce.locals fun _ => o2) (X.env :: X.outer) a (Zc cls d) X.env.locals h2 := by
    refine ⟨fun b o e => ?_, (hB2o a haC).trans g2, fr2, oe, vs, T, oT, ts, he2, hz, hd, hv, (hB2o T hTC).trans hnT, hTe, hT2, hdT, h3⟩
    by_cases hb : b = ce.locals
    · subst hb
      rw [hB2C] at e
      cases e
      exact ho2
    · rw [hB2o b hb] at e
      exact (sb2.2 b hb).trans (g1 b o e)
  have IX : Inv X pins σ HI sI := I.call' (ch := fp) II.os II.base II.hok II.bare fun b hb => ⟨(hfp b hb).2.2.2.1, (hfp b hb).2.1, (hfp b hb).2.2.2.2.1, (hfp b hb).2.2.2.2.2⟩
  have nC : HI ce.locals = none := II.free
  obtain ⟨f0, f1, _, f3, f4, f5⟩ : FpOk X pins HI ce.locals := I.fpOk (Nat.le_of_eq hL.symm) nC
  have IX2 : Inv X pins σ HI { sI with heap := sI.heap.update ce.locals fun _ => o2, toks := sI.toks } := IX.turned (fun b o hb e => (put_ne hb).trans e) f0 f1 f3 f4 f5
  unfold PySem.passOn
  refine wpAny_bind (wpAny_field he2 hd hv ?_)
  rw [if_neg (show ¬ ((Value.ref T == Value.none) = true) by simp), hce, hf]
  refine wpAny_bind (HandSPX.setFlight_onZ held2 fun h4 held4 up4 => ?_)
  refine wpAny_throw ?_
  refine tk _ _ ⟨a, B.update ce.locals (fun _ => o2), { sI with heap := sI.heap.update ce.locals fun _ => o2, toks := sI.toks }, pins, σ, HI, cls, d, rfl, IX2, fun b o e hb => ?_, fun b o e hnf => ?_, ?_, na, os, ag, hE⟩
  · by_cases hbC : b = ce.locals
    · subst hbC
      exact hB2C.trans (hI2C.symm.trans e)
    · rw [hB2o b hbC]
      exact nb b o ((put_ne hbC).symm.trans e) hb
  · by_cases hbC : b = ce.locals
    · subst hbC
      have e2 : o2 = o := Option.some.inj (hI2C.symm.trans e)
      subst e2
      exact up4 _ _ ho2 hnf
    · obtain ⟨sl, q⟩ := (up.trans up1) b o ((put_ne hbC).symm.trans e) hnf
      obtain ⟨sl2, q2⟩ := up4 b _ ((sb2.2 b hbC).trans q) hnf
      exact ⟨sl2, q2⟩
  · rw [hst]
    exact .inr (.inr held4)
/-- the whole expression: the list, or what is done with it, or the exception out of the element -/
theorem lc_hot {E : XK} {Q : VK} {elt tg iter : Expr} {ifs : List Expr} {scope : Scope} {own : List (Str × Nat)} {pos pos' : Pos} {wi : TI} {g : TG} {tt : TT} {te : TE} {use : Option (Value → Sem Unit)} {Qf : Value → Shared → Prop}
    (tk : Takes X fun cls d _ H => E cls d H) (hst : X.stack = X.env :: X.outer) (hf : X.env.frame = some X.env.locals) (hc : X.calm = true) (hN : X.N.Nodup) (I : Inv X pins σ H s) (hi : PI X tg iter wi) (ok : BlkOk X.N X.env.scope scope own)
    (hg : ∀ s H C cl fp, PG (X.blk s H scope (compEnvC scope cl C X.env) fp) tg g) (ht : ∀ s H C cl fp, PTs (X.blk s H scope (compEnvC scope cl C X.env) fp) ifs tt)
    (he : ∀ s H C cl fp, Passes (CX X.prog X.w) (blkH X s H scope (compEnvC scope cl C X.env) fp) E → PE (blkH X s H scope (compEnvC scope cl C X.env) fp) elt te) (hs : ∀ x, foldedSetIterable iter X.env x = pure x)
    (h : tLc wi g tt te (own.map (·.2)) σ H Q) (fin : ∀ D ce s' m H', Inv X pins σ H' s' → Q (.ref D) H' → s'.heap.Ns ce.locals m → FpOk X pins H' ce.locals → compEnds (model X.prog X.w) X.A X.xe use Qf (.ref D) ce (.ok .next) s') :
    wpAny (model X.prog X.w) X.A (comprehension (.ListComp elt [⟨tg, iter, ifs, 0⟩] scope pos) scope X.env pos' (newList []) false (eval iter X.env) use) Qf X.xe s := by
  have hcl : closureFor scope X.env = pure (cloFrom X.env.cells scope.names []) := closure_ok fun y hy e => (ok.free y hy e).elim (fun k => I.ok.has _ (.inl k)) fun k => I.ok.has _ (.inr k)
  refine comprehension_at (use := use) rfl hs hcl ok.kind (fun y hy e => (ok.uniq y hy).trans (by rw [e])) (thn (hi.run pins s σ H _ I h) fun xv s1 hx => thn hx fun itv s2 hit => ?_)
  obtain ⟨it, fp, tn, J, H2, rfl, I2, T, st2, f2, q⟩ := hit
  refine wpAny_newObj_type (newEnv_comp ?_) (Nat.zero_le _)
  -- the new list stands at D
  obtain ⟨D, hD⟩ : ∃ D, D = s2.heap.objs.size := ⟨_, rfl⟩
  obtain ⟨s3, hs3⟩ : ∃ s3 : Shared, s3 = { s2 with heap := s2.heap.push { cls := .type "list", data := .seq ([] : List Value).toArray } } := ⟨_, rfl⟩
  obtain ⟨W, ⟨m0, w0⟩, turn⟩ := q D (I2.hok.fresh (Nat.le_of_eq hD.symm))
  have h3 : s3.heap = s2.heap.push { cls := .type "list", data := .seq ([] : List Value).toArray } := congrArg Shared.heap hs3
  have old3 : ∀ b o, s2.heap.get? b = some o → s3.heap.get? b = some o := fun b o e => by
    exact h3 ▸ Heap.get?_push_of_some _ e
  obtain ⟨H3, hH3⟩ : ∃ H3 : Hp, H3 = upd H2 D (.lst []) := ⟨_, rfl⟩
  have I3 : Inv X pins σ H3 s3 := by
    rw [hH3, hs3]
    refine I2.laid (t' := s2.toks) (fun b o e => Heap.get?_push_of_some _ e) (Nat.le_of_eq hD.symm) ⟨Nat.zero_le _, [], 0, .nil, ?_⟩
    exact hD ▸ Heap.get?_push_size _ rfl
  have lt2 : ∀ b ∈ fp, b < s2.heap.objs.size := fun b hb => let ⟨_, e, _⟩ := T.obj _ _ st2 b hb; Heap.lt_size e
  have f3 : ∀ b ∈ fp, FpOk X pins H3 b := fun b hb => by
    refine ⟨?_, (f2 b hb).2⟩
    rw [hH3, upd_ne (hD ▸ Nat.ne_of_lt (lt2 b hb))]
    exact (f2 b hb).1
  have f3s : ∀ b ∈ fp, FpOk X pins H3 b ∧ b < s3.heap.objs.size := fun b hb => ⟨f3 b hb, by
    rw [h3, Heap.size_push]
    exact Nat.lt_succ_of_lt (lt2 b hb)⟩
  have B4 := block_start I3 ok hN f3s
  obtain ⟨cl, hcle⟩ : ∃ cl, cl = cellsFrom (s3.heap.objs.size + 1) scope.names (cloFrom X.env.cells scope.names []) := ⟨_, rfl⟩
  obtain ⟨ce, hce⟩ : ∃ ce, ce = compEnvC scope cl s3.heap.objs.size X.env := ⟨_, rfl⟩
  have cL : ce.locals = s3.heap.objs.size := by rw [hce]; rfl
  have cF : ce.frame = X.env.frame := by rw [hce]; rfl
  have pg := hg s3 H3 s3.heap.objs.size cl fp
  have pt := ht s3 H3 s3.heap.objs.size cl fp
  have pe := he s3 H3 s3.heap.objs.size cl fp (hce ▸ block_passes tk hst hf I3 f3 cF cL)
  obtain ⟨s4, hs4⟩ : ∃ s4 : Shared, s4 = { s3 with heap := pushCells (s3.heap.push { cls := .type "dict", data := .dict #[] }) scope.names } := ⟨_, rfl⟩
  rw [← hcle, ← hce, ← hs4] at B4
  rw [← hce] at pg pt pe
  have I4 : Inv (blkH X s3 H3 scope ce fp) [] (wipe σ (own.map (·.2))) H3 s4 := B4.wish _
  have st3 : tn 0 s3.heap := T.keep _ _ _ st2 fun b _ => old3 b
  have st4 : tn 0 s4.heap := T.keep _ _ _ st3 fun b _ o e => by
    rw [hs4]
    exact pushCells_keeps _ _ _ _ (Heap.get?_push_of_some _ e)
  rw [← hH3] at w0
  have nf3 : ∀ b ∈ fp, H3 b = none := fun b hb => (f3 b hb).1
  have walked : ∀ {σ' : L2.St} {H' : Hp} {s' : Shared}, Inv (blkH X s3 H3 scope ce fp) [] σ' H' s' → (∀ b ∈ fp, H' b = none) → ∀ b ∈ fp, FpOk (blkH X s3 H3 scope ce fp) [] H' b := fun J' hn b hb =>
    ⟨hn b hb, (J'.ok.exf b hb).1, J'.ok.exfs b hb, .inl hb, fun x c e => (J'.ok.exf b hb).2 x c e, fun p hp => by cases hp⟩
  have loop : codeAny (model X.prog X.w) X.A (.compLoop (.ListComp elt [⟨tg, iter, ifs, 0⟩] scope pos) 0 (.ref it) (.ref D) ce) (compEnds (model X.prog X.w) X.A X.xe use Qf (.ref D) ce) s4 := by
    have err : (notedBy (model X.prog X.w) X.A ce fun e s' => compEnds (model X.prog X.w) X.A X.xe use Qf (.ref D) ce (.error e) s') = outOf X ce := by
      cases use <;> rfl
    refine compLoop_any (fun n s' => ∃ i H', Inv (blkH X s3 H3 scope ce fp) [] (wipe σ (own.map (·.2))) H' s' ∧ tn i s'.heap ∧ (∀ b ∈ fp, H' b = none) ∧ W i n H') ?_ m0 ⟨0, H3, I4, st4, nf3, w0⟩
    rw [err]
    rintro k s5 ⟨i, H5, I5, st5, nf5, w5⟩
    rcases turn i k H5 w5 with ⟨stop, hQ⟩ | ⟨go, Nx, down, step⟩
    · refine thnF (T.done (blkH X s3 H3 scope ce fp) rfl rfl rfl hc i [] s5 _ H5 (fun _ _ => False) I5 (walked I5 nf5) st5 stop) fun r s6 ⟨hr, I6⟩ => ?_
      subst hr
      have I7 : Inv X pins σ H5 s6 := I3.call' (ch := fp) I6.os I6.base I6.hok I6.bare fun b hb => ⟨(f3 b hb).2.2.2.1, (f3 b hb).2.1, (f3 b hb).2.2.2.2.1, (f3 b hb).2.2.2.2.2⟩
      have nC : H5 ce.locals = none := I6.free
      obtain ⟨m, hn, _⟩ := I6.loc
      exact fin D ce s6 m H5 I7 hQ hn (I3.fpOk (Nat.le_of_eq cL.symm) nC)
    · refine thnF (T.item (blkH X s3 H3 scope ce fp) rfl rfl rfl hc i [] s5 _ H5 (fun _ _ => False) I5 (walked I5 nf5) st5 go) fun r s6 ⟨u, hr, h6⟩ => ?_
      subst hr
      refine thnF h6 fun _ s7 ⟨v7, H7, I7, r7, y7, st7, nf7⟩ => ?_
      have P7 := I7.pinned (walked I7 nf7) (T.obj _ _ st7)
      refine thnF (pg.run _ s7 _ H7 v7 u _ P7.unwish r7 (step v7 H7 y7)) fun _ s8 ⟨σ8, H8, J8, hw8, q8⟩ => ?_
      refine thnF (pt.run _ s8 σ8 H8 _ J8 q8) fun b s9 ⟨H9, J9, q9⟩ => ?_
      have I9 : Inv (blkH X s3 H3 scope ce fp) ([] ++ pinsAt fp s7.heap) σ8 H9 s9 := J9.wish _
      have again : ∀ {s' : Shared} {H' : Hp}, Inv (blkH X s3 H3 scope ce fp) ([] ++ pinsAt fp s7.heap) σ8 H' s' → Nx H' → ∃ m, m < k ∧ ∃ i H', Inv (blkH X s3 H3 scope ce fp) [] (wipe σ (own.map (·.2))) H' s' ∧ tn i s'.heap ∧ (∀ b ∈ fp, H' b = none) ∧ W i m H' := fun {s' H'} J' nx => by
        obtain ⟨m', less, wNext⟩ := down H' nx
        have stays : ∀ b ∈ fp, ∀ o, s7.heap.get? b = some o → s'.heap.get? b = some o ∧ H' b = none := fun b hb o e =>
          let z := J'.pin (b, o) (List.mem_append_right _ (List.mem_append_right _ (mem_pinsAt hb e)))
          ⟨z.1, z.2.1⟩
        refine ⟨m', less, i + 1, H', (J'.unpinned (pins := [])).weak (by rw [← hw8, wipe_length]) (fun j v e => (wipe_some (hw8 ▸ e)).1), T.keep _ _ _ st7 fun b hb o e => (stays b hb o e).1, fun b hb => ?_, wNext⟩
        exact let ⟨o, e, _⟩ := T.obj _ _ st7 b hb; (stays b hb o e).2
      cases b with
      | false => exact again I9 q9
      | true =>
        refine wpAny_mono (pe.run _ s9 σ8 H9 _ I9 q9) (fun z s10 ⟨yv, H10, I10, r10, acc, hD10, hz10, nx⟩ => ?_) fun _ _ z => z
        exact app_ok (X := blkH X s3 H3 scope ce fp) I10 hD10 hz10 r10 fun s11 I11 => again I11 nx
  have key := codeAny_compStart_list loop (T.self X.A 0 _ _ _ st4 loop)
  clear loop walked I4 B4 pe pg pt
  subst hs4 hce hcle hs3 hD
  exact key
/-- name = [..], the element may raise -/
theorem ps_setLcH {E : XK} {i : Nat} {y : Str} {py : Pos} {elt tg iter : Expr} {ifs : List Expr} {scope : Scope} {own : List (Str × Nat)} {pos spos : Pos} {wi : TI} {g : TG} {tt : TT} {te : TE}
    (tk : Takes X fun cls d _ H => E cls d H) (hst : X.stack = X.env :: X.outer) (hf : X.env.frame = some X.env.locals) (hc : X.calm = true) (hN : X.N.Nodup) (hy : X.N[i]? = some y) (hyl : X.env.scope.names.lookup y = some .local)
    (hsw : swapsWith (.ListComp elt [⟨tg, iter, ifs, 0⟩] scope pos) (some (.Name y py)) spos.line X.env = pure true) (hi : PI X tg iter wi) (ok : BlkOk X.N X.env.scope scope own)
    (hg : ∀ s H C cl fp, PG (X.blk s H scope (compEnvC scope cl C X.env) fp) tg g) (ht : ∀ s H C cl fp, PTs (X.blk s H scope (compEnvC scope cl C X.env) fp) ifs tt)
    (he : ∀ s H C cl fp, Passes (CX X.prog X.w) (blkH X s H scope (compEnvC scope cl C X.env) fp) E → PE (blkH X s H scope (compEnvC scope cl C X.env) fp) elt te) (hs : ∀ x, foldedSetIterable iter X.env x = pure x := by intro _; rfl) :
    PS X (.Assign [.Name y py] (.ListComp elt [⟨tg, iter, ifs, 0⟩] scope pos) spos) (tAsg (tLc wi g tt te (own.map (·.2))) (gName i)) := by
  constructor; intro pins s σ H D I h
  rw [exec_Assign_Name_used _ _ _ _ hsw]; refine wpAny_bind (wpAny_standAt (wpAny_bind ?_))
  show wpAny (model X.prog X.w) X.A (do let _ ← comprehension (.ListComp elt [⟨tg, iter, ifs, 0⟩] scope pos) scope X.env (firstIterPos [⟨tg, iter, ifs, 0⟩] pos) (newList []) false (eval iter X.env) (some (assign (.Name y py) X.env))) _ _ s
  have h' : tLc wi g tt te (own.map (·.2)) σ H fun x H1 => gName i x σ H1 D.nx := h
  have whole := lc_hot (pos := pos) (pos' := firstIterPos [⟨tg, iter, ifs, 0⟩] pos) (use := some (assign (.Name y py) X.env)) (Qf := fun _ s' => SP X pins D .next s') tk hst hf hc hN I hi ok hg ht he hs h' fun L ce s' m H' I' q hn f => ?_
  · exact wpAny_bind (wpAny_mono whole (fun _ s' hq => wpAny_pure (wpAny_pure hq)) fun _ _ z => z)
  obtain ⟨f0, f1, _, f3, f4, f5⟩ := f
  refine wpAny_assign_Name (store_ok2 (v := V.ref L) I' hN hy (.inl hyl) rfl (fun s2 I2 ⟨a, sb, ha⟩ => ⟨m, hn.sameBut sb ?_, fun h3 sb3 => ?_⟩) (.inr hyl))
  · rcases ha with z | z
    · rw [z]
      exact f1
    · exact fun q => f4 y a z q.symm
  · exact ⟨_, H', I2.turned (t' := s2.toks) (fun b o hb e => (sb3.2 b hb).trans e) f0 f1 f3 f4 f5, q⟩
end
end Wm

/-! MATH: mooring at a quay -/
namespace Wm
theorem snocInd {α : Type} {P : List α → Prop} (h0 : P []) (hs : ∀ l x, P l → P (l ++ [x])) : ∀ {l : List α}, P l := by
  intro l
  have key : ∀ m : List α, P m.reverse := by
    intro m
    induction m with
    | nil => exact h0
    | cons x m ih =>
      rw [List.reverse_cons]
      exact hs _ _ ih
  have := key l.reverse
  rw [List.reverse_reverse] at this
  exact this
/-- the first free place from w on -/
def firstFree (long : Nat) (tk : Nat → Bool) (w : Nat) : Option Nat := (List.range' w (long - w)).find? fun p => !tk p
def moorStep (long : Nat) (acc : List (Option Nat)) (w : Nat) : List (Option Nat) := acc ++ [firstFree long (fun p => decide (some p ∈ acc)) w]
def mooredL (long : Nat) (ws : List Nat) : List (Option Nat) := ws.foldl (moorStep long) []
theorem mooredL_snoc (long : Nat) (ws : List Nat) (w : Nat) : mooredL long (ws ++ [w]) = mooredL long ws ++ [firstFree long (fun p => decide (some p ∈ mooredL long ws)) w] := by
  unfold mooredL
  rw [List.foldl_append]
  rfl
theorem mooredL_take {long : Nat} {ws : List Nat} {i w : Nat} (h : ws[i]? = some w) : mooredL long (ws.take (i + 1)) = mooredL long (ws.take i) ++ [firstFree long (fun p => decide (some p ∈ mooredL long (ws.take i))) w] := by
  rw [List.take_add_one, h]
  exact mooredL_snoc long (ws.take i) w
theorem foldl_len (long : Nat) : ∀ (ws : List Nat) (acc : List (Option Nat)), (ws.foldl (moorStep long) acc).length = acc.length + ws.length
  | [], acc => rfl
  | w :: ws, acc => by
    show (ws.foldl (moorStep long) (moorStep long acc w)).length = _
    rw [foldl_len long ws]
    unfold moorStep
    rw [List.length_append, List.length_cons, List.length_cons, List.length_nil]
    omega
theorem mooredL_len (long : Nat) (ws : List Nat) : (mooredL long ws).length = ws.length := by
  unfold mooredL
  rw [foldl_len]
  exact Nat.zero_add _
/-- what firstFree finds -/
theorem firstFree_some {long w p : Nat} {tk : Nat → Bool} (h : firstFree long tk w = some p) : w ≤ p ∧ p < long ∧ tk p = false ∧ ∀ q, w ≤ q → q < p → tk q = true := by
  unfold firstFree at h
  obtain ⟨h1, i, hi, e, hlt⟩ := List.find?_eq_some_iff_getElem.mp h
  rw [List.getElem_range'] at e
  rw [List.length_range'] at hi
  refine ⟨by omega, by omega, by simpa using h1, fun q hq hqp => ?_⟩
  have h2 := hlt (q - w) (by omega)
  rw [List.getElem_range'] at h2
  have e2 : w + 1 * (q - w) = q := by omega
  rw [e2] at h2
  simpa using h2
theorem firstFree_none {long w : Nat} {tk : Nat → Bool} (h : firstFree long tk w = none) : ∀ q, w ≤ q → q < long → tk q = true := by
  unfold firstFree at h
  intro q hq hl
  have h2 := List.find?_eq_none.mp h q (by rw [List.mem_range'_1]; omega)
  simpa using h2
theorem firstFree_is {long w p : Nat} {tk : Nat → Bool} (h1 : w ≤ p) (h2 : p < long) (h3 : tk p = false) (h4 : ∀ q, w ≤ q → q < p → tk q = true) : firstFree long tk w = some p := by
  cases e : firstFree long tk w with
  | none =>
    have := firstFree_none e p h1 h2
    rw [h3] at this
    cases this
  | some q =>
    obtain ⟨a, b, c, d⟩ := firstFree_some e
    by_cases hlt : q < p
    · rw [h4 q a hlt] at c
      cases c
    · by_cases hgt : p < q
      · rw [d p h1 hgt] at h3
        cases h3
      · have : q = p := by omega
        rw [this]
theorem firstFree_isNone {long w : Nat} {tk : Nat → Bool} (h : ∀ q, w ≤ q → q < long → tk q = true) : firstFree long tk w = none := by
  cases e : firstFree long tk w with
  | none => rfl
  | some p =>
    obtain ⟨a, b, c, d⟩ := firstFree_some e
    rw [h p a b] at c
    cases c
theorem mooredL_lt {long : Nat} {ws : List Nat} : ∀ {p : Nat}, some p ∈ mooredL long ws → p < long := by
  refine snocInd (P := fun ws => ∀ {p : Nat}, some p ∈ mooredL long ws → p < long) (fun h => by cases h) (fun ws w ih => ?_)
  · intro p h
    rw [mooredL_snoc, List.mem_append, List.mem_singleton] at h
    rcases h with h | h
    · exact ih h
    · exact (firstFree_some h.symm).2.1
end Wm

/-! MATH: a row of a quay -/
namespace Wm
structure Row (long : Nat) (ws : List Nat) : Prop where
  lo : 1 ≤ long
  hi : long ≤ 40
  few : ws.length ≤ long
  lt : ∀ w ∈ ws, w < long
end Wm

/-! ### texts of numbers -/
namespace Wm
open PySem PySem.Spec PyProof.Rows L2 Evl
def numS (n : Nat) : Str := Str.ofString (toString (n : Int))
theorem numS_len {n : Nat} (h : n < 100) : (numS n).length ≤ 3 := by
  unfold numS
  rw [PySem.ofString_length]
  exact int_text_length_le10 (k := 2) (by decide) (by show n < 10 ^ 2; omega)
def rowTo (t0 : Str) (ws : List Nat) : Str := ws.foldl (fun t w => t ++ Str.ofString " " ++ numS w) t0
theorem rowTo_take {t0 : Str} {ws : List Nat} {i w : Nat} (h : ws[i]? = some w) : rowTo t0 (ws.take (i + 1)) = rowTo t0 (ws.take i) ++ Str.ofString " " ++ numS w := by
  unfold rowTo
  rw [List.take_add_one, h, List.foldl_append]
  rfl
def headS (long : Nat) : Str := numS long ++ Str.ofString ":"
def rowText (long : Nat) (ws : List Nat) : Str := rowTo (headS long) ws
theorem one_len {s : String} (h : s.length = 1) : (Str.ofString s).length = 1 := by rw [PySem.ofString_length, h]
theorem rowTo_len {t0 : Str} {ws : List Nat} : (∀ w ∈ ws, w < 100) → (rowTo t0 ws).length ≤ t0.length + 4 * ws.length := by
  refine Wm.snocInd (P := fun ws => (∀ w ∈ ws, w < 100) → (rowTo t0 ws).length ≤ t0.length + 4 * ws.length) (fun _ => Nat.le_refl _) (fun l x ih hx => ?_)
  have h1 := ih fun w hw => hx w (List.mem_append_left _ hw)
  have h2 := numS_len (hx x (List.mem_append_right _ (List.mem_singleton.mpr rfl)))
  have e : rowTo t0 (l ++ [x]) = rowTo t0 l ++ Str.ofString " " ++ numS x := by
    unfold rowTo
    rw [List.foldl_append]
    rfl
  rw [e, Str.length_append, Str.length_append, one_len rfl, List.length_append]
  show _ ≤ _ + 4 * (l.length + 1)
  omega
theorem headS_len {long : Nat} (h : long < 100) : (headS long).length ≤ 4 := by
  unfold headS
  rw [Str.length_append, one_len rfl]
  have := numS_len h
  omega
section
variable {K : Kf} {σ : L2.St} {H H' : Hp} {ta tb te : TE}
def rAddS : R2 := fun x y H Q => ∃ i j, x = .str i ∧ y = .str j ∧ i.length + j.length ≤ sizeLine ∧ Q (.str (i ++ j)) H
theorem rv_addS {i j : Str} (h : i.length + j.length ≤ 100000) : RV rAddS (.str i) (.str j) H (.str (i ++ j)) := fun H1 _ Q q => ⟨i, j, rfl, rfl, sz_of h, q H1 (Ex.refl H1)⟩
def rStrI : List V → Hp → VK → Prop := fun xs H Q => ∃ i : Int, xs = [.int i] ∧ i.natAbs.log2 < 1920 ∧ Q (.str (Str.ofString (toString i))) H
theorem ev_str {n : Nat} (ha : Ev ta σ H (.int (n : Int))) (hn : n < 1000) : Ev (tCB rStrI (tCons ta tNil)) σ H (.str (numS n)) := fun H1 e Q q =>
  ha H1 e _ fun H2 e2 => ⟨(n : Int), rfl, Nat.lt_of_le_of_lt (Nat.log2_le_self _) (by show n < 1920; omega), q H2 e2⟩
end
end Wm

/-! ### texts of rows, read -/
namespace Wm
open PySem PySem.Spec PyProof.Rows L2 Evl TL
def IsNum (a : Str) (n : Nat) : Prop := n < 100 ∧ tl a = numL n
def Num (a : Str) : Prop := ∃ n, IsNum a n
theorem tl_numS (n : Nat) : tl (numS n) = numL n := tl_num n
theorem numL_two {n : Nat} (h : 10 ≤ n) (h2 : n < 100) : numL n = [48 + n / 10, 48 + n % 10] := by
  rw [numL_step h, numL_lt (by omega)]
  rfl
theorem IsNum.two {a : Str} {n : Nat} (h : IsNum a n) : (n < 10 ∧ tl a = [48 + n]) ∨ (10 ≤ n ∧ tl a = [48 + n / 10, 48 + n % 10]) := by
  obtain ⟨h1, h2⟩ := h
  by_cases c : n < 10
  · exact .inl ⟨c, by rw [h2, numL_lt c]⟩
  · exact .inr ⟨by omega, by rw [h2, numL_two (by omega) h1]⟩
theorem IsNum.uniq {a : Str} {m n : Nat} (h : IsNum a m) (g : IsNum a n) : m = n := numL_inj (h.2.symm.trans g.2)
theorem IsNum.digits {a : Str} {n : Nat} (h : IsNum a n) : ∀ c ∈ tl a, 48 ≤ c ∧ c ≤ 57 := by
  rw [h.2]
  exact numL_digits n
theorem IsNum.int {a : Str} {n : Nat} (h : IsNum a n) : intText? a = some (n : Int) := by
  have e : a = Str.ofString (toString ((n : Nat) : Int)) := ext_tl (by rw [h.2, tl_num])
  rw [e]
  refine int_num ?_
  rw [← h.2]
  rcases h.two with ⟨_, e⟩ | ⟨_, e⟩ <;> (rw [e]; exact Nat.le_of_ble_eq_true rfl)
theorem num_of {a : Str} {c : Nat} {r : List Nat} (ha : tl a = c :: r) (hl : (tl a).length ≤ 2) (h0 : c = 48 → (tl a).length ≤ 1) (hd : ∀ d ∈ tl a, 48 ≤ d ∧ d ≤ 57) : Num a := by
  have hc := hd c (by rw [ha]; exact List.mem_cons_self)
  cases r with
  | nil => exact ⟨c - 48, by omega, by rw [ha, numL_lt (by omega)]; congr 1; omega⟩
  | cons d r =>
    have hdd := hd d (by rw [ha]; exact List.mem_cons_of_mem _ List.mem_cons_self)
    cases r with
    | nil =>
      have hc2 : c ≠ 48 := fun h => by
        have := h0 h
        rw [ha] at this
        have h2 : 2 ≤ 1 := this
        omega
      refine ⟨10 * (c - 48) + (d - 48), by omega, ?_⟩
      rw [ha, numL_two (by omega) (by omega)]
      congr 1
      · omega
      · congr 1
        omega
    | cons _ _ =>
      rw [ha] at hl
      simp only [List.length_cons] at hl
      omega
theorem len_str (a : Str) : a.length = (tl a).length := len_tl a
theorem str_nil {a : Str} (h : tl a = []) : a = "" := ext_tl h
theorem figures : tl ("0123456789" : Str) = [48, 49, 50, 51, 52, 53, 54, 55, 56, 57] := by decide +kernel
theorem in_figures (c : Nat) : c ∈ tl ("0123456789" : Str) ↔ 48 ≤ c ∧ c ≤ 57 := by
  rw [figures]
  constructor
  · intro h
    simp only [List.mem_cons, List.not_mem_nil, or_false] at h
    omega
  · intro h
    simp only [List.mem_cons, List.not_mem_nil, or_false]
    omega
theorem sign_eq {c d : Nat} {s : Str} (hs : tl s = [d]) : decide (V.str ⟨#[c]⟩ = V.str s) = decide (c = d) := by
  refine decide_eq_decide.mpr ⟨fun h => ?_, fun h => ?_⟩
  · have e := congrArg tl (V.str.inj h)
    rw [hs] at e
    exact (List.cons.inj e).1
  · refine congrArg V.str (ext_tl ?_)
    rw [hs, ← h]
/-! slices -/
theorem tl_last (z : Str) : tl (cutS z (some (-1)) none) = (tl z).drop ((tl z).length - 1) := by
  show (((tl z).drop (HT.sIx z.length 0 (some (-1)))).take (HT.sIx z.length z.length none - HT.sIx z.length 0 (some (-1)))) = _
  have e1 : HT.sIx z.length 0 (some (-1)) = (tl z).length - 1 := by
    show (if (-1 : Int) < 0 then ((-1 : Int) + (z.length : Int)).toNat else min (-1 : Int).toNat z.length) = _
    rw [if_pos (by decide), len_str]
    omega
  have e2 : HT.sIx z.length z.length none = (tl z).length := len_str z
  rw [e1, e2]
  exact List.take_of_length_le (by rw [List.length_drop]; omega)
theorem tl_init (z : Str) : tl (cutS z none (some (-1))) = (tl z).take ((tl z).length - 1) := by
  show (((tl z).drop (HT.sIx z.length 0 none)).take (HT.sIx z.length z.length (some (-1)) - HT.sIx z.length 0 none)) = _
  have e1 : HT.sIx z.length z.length (some (-1)) = (tl z).length - 1 := by
    show (if (-1 : Int) < 0 then ((-1 : Int) + (z.length : Int)).toNat else min (-1 : Int).toNat z.length) = _
    rw [if_pos (by decide), len_str]
    omega
  rw [e1]
  rfl
/-- a text and the sign behind it -/
theorem tl_snoc_last {z : Str} {l : List Nat} {c : Nat} (h : tl z = l ++ [c]) : tl (cutS z (some (-1)) none) = [c] := by
  rw [tl_last, h, List.length_append]
  show (l ++ [c]).drop (l.length + 1 - 1) = _
  rw [Nat.add_sub_cancel, List.drop_left]
theorem tl_snoc_init {z : Str} {l : List Nat} {c : Nat} (h : tl z = l ++ [c]) : tl (cutS z none (some (-1))) = l := by
  rw [tl_init, h, List.length_append]
  show (l ++ [c]).take (l.length + 1 - 1) = _
  rw [Nat.add_sub_cancel, List.take_left]
theorem tl_split {z : Str} {c : Nat} (h : tl (cutS z (some (-1)) none) = [c]) : tl z = tl (cutS z none (some (-1))) ++ [c] := by
  rw [tl_last] at h
  rw [tl_init, ← h, List.take_append_drop]
def HeadOf (p : Str) (n : Nat) : Prop := n < 100 ∧ tl p = numL n ++ [58]
theorem HeadOf.init {p : Str} {n : Nat} (h : HeadOf p n) : IsNum (cutS p none (some (-1))) n := ⟨h.1, tl_snoc_init h.2⟩
theorem head_of {p : Str} {n : Nat} (h : tl (cutS p (some (-1)) none) = [58]) (g : IsNum (cutS p none (some (-1))) n) : HeadOf p n := ⟨g.1, by rw [tl_split h, g.2]⟩
def Nums (ps : List Str) (ws : List Nat) : Prop := ps.map tl = ws.map numL ∧ ∀ w ∈ ws, w < 100
theorem Nums.len {ps : List Str} {ws : List Nat} (h : Nums ps ws) : ps.length = ws.length := by
  have e := congrArg List.length h.1
  rw [List.length_map, List.length_map] at e
  exact e
theorem Nums.at {ps : List Str} {ws : List Nat} (h : Nums ps ws) {i w : Nat} {p : Str} (hp : ps[i]? = some p) (hw : ws[i]? = some w) : IsNum p w := by
  have e := congrArg (fun l => l[i]?) h.1
  rw [List.getElem?_map, List.getElem?_map, hp, hw] at e
  exact ⟨h.2 w (List.mem_of_getElem? hw), Option.some.inj e⟩
theorem Nums.mem {ps : List Str} {ws : List Nat} (h : Nums ps ws) {p : Str} (hp : p ∈ ps) : Num p := by
  obtain ⟨i, hi⟩ := List.mem_iff_getElem?.mp hp
  have hil := (List.getElem?_eq_some_iff.mp hi).1
  rw [h.len] at hil
  exact ⟨ws[i], h.at hi (List.getElem?_eq_getElem hil)⟩
theorem nums_of : ∀ {ps : List Str}, (∀ p ∈ ps, Num p) → ∃ ws, Nums ps ws
  | [], _ => ⟨[], rfl, fun _ h => by cases h⟩
  | p :: ps, h => by
    obtain ⟨n, hn⟩ := h p List.mem_cons_self
    obtain ⟨ws, e, hw⟩ := nums_of fun q hq => h q (List.mem_cons_of_mem _ hq)
    refine ⟨n :: ws, ?_, fun w hm => ?_⟩
    · rw [List.map_cons, List.map_cons, hn.2, e]
    · rcases List.mem_cons.mp hm with rfl | hm
      · exact hn.1
      · exact hw w hm
theorem Nums.uniq {ps : List Str} {ws us : List Nat} (h : Nums ps ws) (g : Nums ps us) : ws = us := by
  have e := h.1.symm.trans g.1
  exact (List.map_inj_right (fun x y h => numL_inj h)).mp e
/-- the first that is no number -/
theorem first_bad : ∀ {ps : List Str}, ¬ (∀ p ∈ ps, Num p) → ∃ (k : Nat) (p : Str), ps[k]? = some p ∧ ¬ Num p ∧ ∀ (i : Nat) (q : Str), i < k → ps[i]? = some q → Num q
  | [], h => absurd (fun p hp => by cases hp) h
  | p :: ps, h => by
    by_cases c : Num p
    · have h2 : ¬ ∀ q ∈ ps, Num q := fun g => h fun q hq => by
        rcases List.mem_cons.mp hq with rfl | hq
        · exact c
        · exact g q hq
      obtain ⟨k, q, hk, hb, hg⟩ := first_bad h2
      refine ⟨k + 1, q, hk, hb, fun i r hi hr => ?_⟩
      cases i with
      | zero =>
        cases hr
        exact c
      | succ i => exact hg i r (by omega) hr
    · exact ⟨0, p, rfl, c, fun i q hi _ => by omega⟩
/-- what a list of parts says -/
def GoodP (ps : List Str) (n : Nat) (ws : List Nat) : Prop := ∃ p rest, ps = p :: rest ∧ HeadOf p n ∧ Nums rest ws
theorem sp_sign : tl (" " : Str) = [32] := by decide +kernel
theorem colon_sign : tl (":" : Str) = [58] := by decide +kernel
def joined (ps : List Str) : Str := Txt.join " " ps
/-- parts that a text can be split into again -/
structure Parts (ps : List Str) : Prop where
  ne : ps ≠ []
  sp : ∀ p ∈ ps, 32 ∉ tl p
  len : ∀ p ∈ ps, p.length ≤ 1000
  few : ps.length ≤ 100
theorem Parts.split {ps : List Str} (h : Parts ps) : Txt.split (joined ps) " " = ps := split_join sp_sign (by decide +kernel) h.ne h.sp
theorem joinL_len {S : List Nat} : ∀ {l : List (List Nat)}, (∀ p ∈ l, p.length ≤ 1000) → (joinL S l).length ≤ l.length * (1000 + S.length)
  | [], _ => Nat.zero_le _
  | [p], h => by
    have := h p List.mem_cons_self
    show p.length ≤ 1 * _
    omega
  | p :: q :: r, h => by
    have h1 := h p List.mem_cons_self
    have ih := joinL_len (S := S) (l := q :: r) fun x hx => h x (List.mem_cons_of_mem _ hx)
    show (p ++ (S ++ joinL S (q :: r))).length ≤ ((q :: r).length + 1) * _
    rw [List.length_append, List.length_append, Nat.add_mul]
    omega
theorem Parts.short {ps : List Str} (h : Parts ps) : (joined ps).length ≤ 100100 - 0 := by
  unfold joined
  rw [join_eq, len_str, tl_join, sp_sign]
  have h1 := joinL_len (S := [32]) (l := ps.map tl) fun p hp => by
    obtain ⟨z, hz, rfl⟩ := List.mem_map.mp hp
    rw [← len_str]
    exact h.len z hz
  rw [List.length_map] at h1
  have h2 := h.few
  have h3 : ps.length * (1000 + [32].length) ≤ 100 * 1001 := Nat.mul_le_mul_right _ h2
  omega
/-- the text of a row, by its parts -/
def rowParts (long : Nat) (ws : List Nat) : List Str := headS long :: ws.map numS
theorem joinL_shift {S a b : List Nat} : ∀ {r : List (List Nat)}, joinL S ((a ++ S ++ b) :: r) = a ++ (S ++ joinL S (b :: r))
  | [] => List.append_assoc a S b
  | q :: r => by
    show (a ++ S ++ b) ++ (S ++ joinL S (q :: r)) = a ++ (S ++ (b ++ (S ++ joinL S (q :: r))))
    rw [List.append_assoc, List.append_assoc]
theorem row_join : ∀ (ws : List Nat) (t0 : Str), rowTo t0 ws = joined (t0 :: ws.map numS)
  | [], t0 => by
    unfold joined
    rw [join_eq]
    rfl
  | w :: ws, t0 => by
    have ih := row_join ws (t0 ++ Str.ofString " " ++ numS w)
    show rowTo (t0 ++ Str.ofString " " ++ numS w) ws = _
    rw [ih]
    refine ext_tl ?_
    unfold joined
    rw [join_eq, join_eq, tl_join, tl_join, sp_sign, List.map_cons, List.map_cons, List.map_cons, tl_append, tl_append, show tl (Str.ofString " ") = [32] from sp_sign, joinL_shift]
    rfl
theorem headS_tl (long : Nat) : tl (headS long) = numL long ++ [58] := by
  unfold headS
  rw [tl_append, tl_numS, show tl (Str.ofString ":") = [58] from colon_sign]
theorem headS_head {long : Nat} (h : long < 100) : HeadOf (headS long) long := ⟨h, headS_tl long⟩
theorem numS_nums {ws : List Nat} (h : ∀ w ∈ ws, w < 100) : Nums (ws.map numS) ws := ⟨by
  rw [List.map_map]
  exact List.map_congr_left fun w _ => tl_numS w, h⟩
theorem rowParts_good {long : Nat} {ws : List Nat} (h : long < 100) (hw : ∀ w ∈ ws, w < 100) : GoodP (rowParts long ws) long ws := ⟨_, _, rfl, headS_head h, numS_nums hw⟩
theorem rowText_parts (long : Nat) (ws : List Nat) : rowText long ws = joined (rowParts long ws) := row_join ws _
theorem numS_free {s n : Nat} (h : s < 48 ∨ 57 < s) : s ∉ tl (numS n) := by
  rw [tl_numS]
  exact numL_free h
theorem headS_free {s n : Nat} (h : s < 48 ∨ 58 < s) : s ∉ tl (headS n) := by
  rw [headS_tl]
  intro hm
  rcases List.mem_append.mp hm with hm | hm
  · exact numL_free (by omega) hm
  · have := List.mem_singleton.mp hm
    omega
theorem rowParts_parts {long : Nat} {ws : List Nat} (h : long < 100) (hw : ∀ w ∈ ws, w < 100) (hl : ws.length ≤ 99) : Parts (rowParts long ws) := by
  refine ⟨List.cons_ne_nil _ _, fun p hp => ?_, fun p hp => ?_, ?_⟩
  · rcases List.mem_cons.mp hp with rfl | hp
    · exact headS_free (by omega)
    · obtain ⟨w, _, rfl⟩ := List.mem_map.mp hp
      exact numS_free (by omega)
  · rcases List.mem_cons.mp hp with rfl | hp
    · have := headS_len h
      omega
    · obtain ⟨w, hm, rfl⟩ := List.mem_map.mp hp
      have := numS_len (hw w hm)
      omega
  · show (ws.map numS).length + 1 ≤ 100
    rw [List.length_map]
    omega
/-! readings -/
def rLenStr : List V → Hp → VK → Prop := fun xs H Q => ∃ z, xs = [.str z] ∧ z.length ≤ sizeLine ∧ Q (.int z.length) H
def rIntS : List V → Hp → VK → Prop := fun xs H Q => ∃ a n, xs = [.str a] ∧ PySem.intText? a = some n ∧ a.length ≤ 640 ∧ Q (.int n) H
def rNotSign : R2 := fun x y H Q => ∃ (c : Nat) (z : Str), x = .str ⟨#[c]⟩ ∧ y = .str z ∧ Q (.bl (!decide (c ∈ z.cps.toList))) H
def rSplit : V → List V → Hp → VK → Prop := fun x xs H Q => ∃ a b, x = .str a ∧ xs = [.str b] ∧ (b.length == 0) = false ∧ a.length + 2 ≤ sizeLine ∧ rNewStrs (Txt.split a b) H Q
def rJoin (K : Kf) : V → List V → Hp → VK → Prop := fun x xs H Q => ∃ a p, ∃ ys : List Str, x = .str a ∧ xs = [.ref p] ∧ (SqL K H p (ys.map V.str) ∨ SqT K H p (ys.map V.str)) ∧ (ys.map (·.length)).sum + ys.length * a.length ≤ 16777216 ∧ Q (.str (Txt.join a ys)) H
section
variable {K : Kf} {σ : L2.St} {H H' : Hp} {ta tb te tx : TE} {x y z v : V} {tu tz : TS} {D : Ends}
theorem ev_lenS {a : Str} (ha : Ev ta σ H (.str a)) (hl : a.length ≤ 100000) : Ev (tCB rLenStr (tCons ta tNil)) σ H (.int (a.length : Int)) := fun H1 e Q q => ha H1 e _ fun H2 e2 => ⟨a, rfl, sz_of hl, q H2 e2⟩
theorem ev_intS {a : Str} {n : Nat} (ha : Ev ta σ H (.str a)) (h : IsNum a n) (hl : a.length ≤ 640) : Ev (tCB rIntS (tCons ta tNil)) σ H (.int (n : Int)) := fun H1 e Q q => ha H1 e _ fun H2 e2 => ⟨a, n, rfl, h.int, hl, q H2 e2⟩
theorem rv_notSign {c : Nat} {z : Str} : RV rNotSign (.str ⟨#[c]⟩) (.str z) H (.bl (!decide (c ∈ tl z))) := fun H1 _ Q q => ⟨c, z, rfl, rfl, q H1 (Ex.refl H1)⟩
theorem el_split {a b : Str} (ha : Ev ta σ H (.str a)) (hb : Ev tb σ H (.str b)) (h1 : (b.length == 0) = false) (h2 : a.length ≤ 200000) : EvL (tBM K "str" rSplit ta (tCons tb tNil)) σ H ((Txt.split a b).map V.str) := fun H1 e Q q =>
  ha H1 e _ fun H2 e2 => ⟨rfl, hb H2 (e.trans e2) _ fun H3 e3 => ⟨a, b, rfl, rfl, h1, Nat.le_trans (Nat.add_le_add_right h2 2) (by decide), fun p hp => q p _ (fresh_back (e2.trans e3) hp) ((e2.trans e3).trans (Ex.new hp)) upd_same⟩⟩
theorem ev_slS {tl th : TO} {a : Str} {lo hi : Option Int} (h : Ev te σ H (.str a)) (h1 : EvO tl σ H lo) (h2 : EvO th σ H hi) (hl : a.length ≤ 100000) : Ev (tSl rSlS te tl th) σ H (.str (cutS a lo hi)) := fun H1 e _ q =>
  h H1 e _ fun H2 e2 => h1 H2 (e.trans e2) _ fun H3 e3 => h2 H3 ((e.trans e2).trans e3) _ fun H4 e4 => ⟨a, rfl, sz_of hl, q H4 ((e2.trans e3).trans e4)⟩
theorem ev_lenTt {p : Addr} {xs : List V} (ha : Ev ta σ H (.ref p)) (h : SqT K H p xs) : Ev (tCB (rLenS K) (tCons ta tNil)) σ H (.int (xs.length : Int)) := fun H1 e Q q =>
  ha H1 e _ fun H2 e2 => ⟨p, xs, rfl, Or.inr (ex_t (e.trans e2) h), q H2 e2⟩
/-- over the signs of a text -/
theorem q_forS {j : Nat} {a : Str} (h : Ev te σ H (.str a)) (Pv : Nat → L2.St → Hp → Prop) (h0 : ∀ H1, Ex H H1 → Pv 0 σ H1)
    (hs : ∀ i c σ' H', (tl a)[i]? = some c → Pv i σ' H' → tu { D with nx := Pv (i + 1), ct := Pv (i + 1), bk := tz D } (σ'.set j (some (.str ⟨#[c]⟩))) H') (hd : ∀ σ' H', Pv (tl a).length σ' H' → tz D σ' H') : tSeq (tFor (iStr te) (gName j) tu) tz D σ H :=
  h H (Ex.refl H) _ fun H1 e => ⟨a, rfl, fun i m σ' H' => m = (tl a).length - i ∧ i ≤ (tl a).length ∧ Pv i σ' H', ⟨(tl a).length, by simp, Nat.zero_le _, h0 H1 e⟩, by
    rintro i m σ' H' ⟨rfl, hi, p⟩
    have hsz : a.cps.size = (tl a).length := (Array.length_toList).symm
    by_cases hlt : i < (tl a).length
    · refine .inr ⟨by show i < a.cps.size; omega, Pv (i + 1), fun σ2 H2 p' => ⟨(tl a).length - (i + 1), by omega, rfl, hlt, p'⟩, fun x H2 yl => ?_⟩
      obtain ⟨rfl, c, hc, rfl⟩ := yl
      exact hs i c σ' _ (by rw [← hc]; exact Array.getElem?_toList) p
    · have e2 : i = (tl a).length := by omega
      subst e2
      exact .inl ⟨by show a.cps.size ≤ _; omega, hd σ' H' p⟩⟩
/-- a comprehension over a new list that raises at its k-th -/
theorem rz_lcNL {xs : List V} {tl : TE} {j : Nat} {vs : List Nat} (v : Nat → V) (k : Nat) (hk : k < xs.length) (h : EvL tl σ H xs) (hz : xs.length ≤ 40000) (hw : ∀ x, wipe ((wipe σ vs).set j (some x)) vs = wipe σ vs)
    (he : ∀ (i : Nat) (x : V) H1, Ex H H1 → xs[i]? = some x → i < k → Ev te ((wipe σ vs).set j (some x)) H1 (v i)) (hr : ∀ (x : V) H1, Ex H H1 → xs[k]? = some x → Rz te ((wipe σ vs).set j (some x)) H1) :
    Rz (tLc (iList K tl) (gName j) tYes te vs) σ H := fun H0 e Q => h H0 e _ fun a H1 ha e1 hx => ⟨a, rfl, ⟨xs, sq_of hx⟩, fun Dl hD =>
  lc_list (xs := xs) (fun i H' => i ≤ k ∧ Cw H1 (fun _ => true) v Dl i H') ⟨Nat.zero_le _, hD, Ex.new hD, upd_same⟩ (fun i H' _ p => sq_of (p.2.2.1 a _ hx)) (fun i x H' hi p => ⟨hw x, by
    obtain ⟨hik, p1, p2, p3⟩ := p
    show te _ H' fun y H4 => ∃ acc, H4 Dl = some (.lst acc) ∧ acc.length < sizeLine ∧ i + 1 ≤ k ∧ Cw H1 (fun _ => true) v Dl (i + 1) (upd H4 Dl (.lst (acc ++ [y])))
    by_cases c : i < k
    · refine he i x H' ((e.trans e1).trans p2) hi c H' (Ex.refl H') _ fun H4 e4 => ⟨given i (fun _ => true) v, e4 Dl _ p3, sz_lt (by have := given_len i (fun _ => true) v; omega), c, p1, Ex.mut (p2.trans e4) p1, ?_⟩
      rw [given_yes rfl]
      exact upd_same
    · have e2 : i = k := by omega
      subst e2
      exact hr x H' ((e.trans e1).trans p2) hi H' (Ex.refl H') _⟩) (fun H' p => absurd p.1 (by omega))⟩
end
end Wm

/-! ### texts of rows, spoilt -/
namespace Wm
open PySem PySem.Spec PyProof.Rows L2 Evl TL
def Bad (ps : List Str) : Prop := ∀ n ws, ¬ GoodP ps n ws
def HeadBad (p : Str) : Prop := ∀ n, ¬ HeadOf p n
def BadRest (ps : List Str) : Prop := ∃ p ∈ ps.drop 1, ¬ Num p
theorem BadRest.bad {ps : List Str} (h : BadRest ps) : Bad ps := by
  rintro n ws ⟨p, rest, rfl, _, hN⟩
  obtain ⟨q, hq, hb⟩ := h
  exact hb (hN.mem hq)
theorem headBad {p : Str} {r : List Str} (h : HeadBad p) : Bad (p :: r) := by
  rintro n ws ⟨p1, rest, e, hh, _⟩
  rw [← (List.cons.inj e).1] at hh
  exact h n hh
theorem notNum_nil {p : Str} (h : tl p = []) : ¬ Num p := fun ⟨n, hn⟩ => numL_ne n (hn.2.symm.trans h)
theorem notNum_sign {p : Str} {c : Nat} (h : c ∈ tl p) (hc : c < 48 ∨ 57 < c) : ¬ Num p := fun ⟨n, hn⟩ => by
  rw [hn.2] at h
  exact numL_free hc h
theorem notNum_long {p : Str} (h : 3 ≤ (tl p).length) : ¬ Num p := fun ⟨n, hn⟩ => by
  rcases hn.two with ⟨_, e⟩ | ⟨_, e⟩
  · rw [e] at h
    simp only [List.length_cons, List.length_nil] at h
    omega
  · rw [e] at h
    simp only [List.length_cons, List.length_nil] at h
    omega
theorem notNum_zero {p : Str} {r : List Nat} (h : tl p = 48 :: r) (hr : r ≠ []) : ¬ Num p := fun ⟨n, hn⟩ => by
  rcases hn.two with ⟨_, e⟩ | ⟨g, e⟩
  · rw [h] at e
    exact hr (List.cons.inj e).2
  · rw [h] at e
    have := (List.cons.inj e).1
    omega
theorem headBad_sign {p : Str} {c : Nat} (h : c ∈ tl p) (hc : c < 48 ∨ 58 < c) : HeadBad p := fun n hn => by
  rw [hn.2] at h
  rcases List.mem_append.mp h with h | h
  · exact numL_free (by omega) h
  · have := List.mem_singleton.mp h
    omega
theorem headBad_nil {p : Str} (h : tl p = []) : HeadBad p := fun n hn => by
  have e := congrArg List.length (h.symm.trans hn.2)
  rw [List.length_append] at e
  simp only [List.length_cons, List.length_nil] at e
  omega
theorem headBad_last {p : Str} {l : List Nat} {c : Nat} (h : tl p = l ++ [c]) (hc : c ≠ 58) : HeadBad p := fun n hn =>
  hc (List.cons.inj (List.append_inj' (h.symm.trans hn.2) rfl).2).1
theorem headBad_init {p q : Str} (h : tl p = tl q ++ [58]) (hq : ¬ Num q) : HeadBad p := fun n hn =>
  hq ⟨n, hn.1, (List.append_inj' (h.symm.trans hn.2) rfl).1⟩
theorem headBad_initL {p : Str} {l : List Nat} (h : tl p = l ++ [58]) (hq : ¬ Num ⟨l.toArray⟩) : HeadBad p := headBad_init (q := ⟨l.toArray⟩) h hq
theorem numL_last (w : Nat) : ∃ l d, numL w = l ++ [d] ∧ 48 ≤ d ∧ d ≤ 57 := by
  by_cases h : w < 10
  · exact ⟨[], 48 + w, by rw [numL_lt h]; rfl, by omega, by omega⟩
  · exact ⟨numL (w / 10), 48 + w % 10, numL_step (by omega), by omega, by omega⟩
/-! a part of a good text -/
/-- the signs of the i-th part -/
def PartAt (i : Nat) (p : Str) : Prop := ∃ m, m < 100 ∧ tl p = numL m ++ (if i = 0 then [58] else [])
theorem rowParts_len (long : Nat) (ws : List Nat) : (rowParts long ws).length = ws.length + 1 := by
  unfold rowParts
  rw [List.length_cons, List.length_map]
theorem rowParts_at {long : Nat} {ws : List Nat} (hl : long < 100) (hw : ∀ w ∈ ws, w < 100) {i : Nat} (hi : i < ws.length + 1) : ∃ p, (rowParts long ws)[i]? = some p ∧ PartAt i p := by
  cases i with
  | zero => exact ⟨_, rfl, long, hl, headS_tl long⟩
  | succ i =>
    have hi2 : i < ws.length := by omega
    refine ⟨numS ws[i], ?_, ws[i], hw _ (List.getElem_mem hi2), ?_⟩
    · show (ws.map numS)[i]? = _
      rw [List.getElem?_map, List.getElem?_eq_getElem hi2]
      rfl
    · rw [tl_numS, if_neg (by omega), List.append_nil]
def Fine (q : Str) (k : Nat) : Prop := 32 ∉ tl q ∧ (tl q).length ≤ k
theorem Fine.le {q : Str} {k m : Nat} (h : Fine q k) (g : k ≤ m) : Fine q m := ⟨h.1, Nat.le_trans h.2 g⟩
theorem Fine.app {p q : Str} {k m : Nat} (h : Fine p k) (g : Fine q m) : Fine (p ++ q) (k + m) := by
  refine ⟨fun hm => ?_, ?_⟩
  · rw [tl_append] at hm
    rcases List.mem_append.mp hm with hm | hm
    · exact h.1 hm
    · exact g.1 hm
  · rw [tl_append, List.length_append]
    have := h.2
    have := g.2
    omega
theorem fine_tl {q : Str} {l : List Nat} {k : Nat} (h : tl q = l) (h1 : 32 ∉ l) (h2 : l.length ≤ k) : Fine q k := ⟨h ▸ h1, h ▸ h2⟩
theorem PartAt.fine {i : Nat} {p : Str} (h : PartAt i p) : Fine p 3 := by
  obtain ⟨m, hm, e⟩ := h
  have h2 := numL_len (n := m) (k := 2) (by decide) (by show m < 10 ^ 2; omega)
  refine ⟨fun hmem => ?_, ?_⟩
  · rw [e] at hmem
    rcases List.mem_append.mp hmem with g | g
    · exact numL_free (by omega) g
    · by_cases c : i = 0
      · rw [if_pos c] at g
        have := List.mem_singleton.mp g
        omega
      · rw [if_neg c] at g
        cases g
  · rw [e, List.length_append]
    by_cases c : i = 0
    · rw [if_pos c]
      show _ + 1 ≤ 3
      omega
    · rw [if_neg c]
      show _ + 0 ≤ 3
      omega
/-- the number that figures write -/
noncomputable def valOf (p : Str) : Nat := by
  classical
  exact if h : Num p then h.choose else 0
theorem valOf_is {p : Str} (h : Num p) : IsNum p (valOf p) := by
  unfold valOf
  rw [dif_pos h]
  exact h.choose_spec
/-! signs alone -/
theorem sg0 : tl ("0" : Str) = [48] := by decide +kernel
theorem sgMinus : tl ("-" : Str) = [45] := by decide +kernel
theorem sgPlus : tl ("+" : Str) = [43] := by decide +kernel
theorem sgA : tl ("a" : Str) = [97] := by decide +kernel
theorem sgNl : tl ("\n" : Str) = [10] := by decide +kernel
theorem sgTab : tl ("\t" : Str) = [9] := by decide +kernel
theorem sgComma : tl ("," : Str) = [44] := by decide +kernel
theorem sgNone : tl ("" : Str) = [] := by decide +kernel
/-! the parts that are handed back -/
structure Spoilt (way : Int) (j : Nat) (qs : List Str) : Prop where
  parts : Parts qs
  bad : Bad qs
  rest : 1 < way → way < 6 → 0 < j → BadRest qs
theorem Fine.len {q : Str} {k : Nat} (h : Fine q k) : q.length ≤ k := by
  rw [len_str]
  exact h.2
theorem parts_cons {q : Str} {r : List Str} (hq : Fine q 1000) (hr : ∀ p ∈ r, Fine p 1000) (hl : r.length ≤ 99) : Parts (q :: r) := by
  refine ⟨List.cons_ne_nil _ _, fun p hp => ?_, fun p hp => ?_, ?_⟩
  · rcases List.mem_cons.mp hp with rfl | hp
    · exact hq.1
    · exact (hr p hp).1
  · rcases List.mem_cons.mp hp with rfl | hp
    · exact hq.len
    · exact (hr p hp).len
  · rw [List.length_cons]
    omega
theorem Parts.fine {ps : List Str} (h : Parts ps) {p : Str} (hp : p ∈ ps) : Fine p 1000 := ⟨h.sp p hp, by rw [← len_str]; exact h.len p hp⟩
/-- the first part is spoilt -/
theorem spoil_head {way : Int} {j : Nat} {q : Str} {r : List Str} (hw : way < 2 ∨ 5 < way) (hq : Fine q 1000) (hr : ∀ p ∈ r, Fine p 1000) (hl : r.length ≤ 99) (hb : HeadBad q) : Spoilt way j (q :: r) :=
  ⟨parts_cons hq hr hl, headBad hb, fun h1 h2 => by omega⟩
/-- the i-th part is spoilt -/
theorem spoil_mid {way : Int} {i j k : Nat} {q : Str} {ps : List Str} (hP : Parts ps) (hl : ps.length ≤ 99) (hik : i ≤ k) (hw : j = i ∨ way < 2 ∨ 5 < way) (hq : Fine q 1000) (h0 : i = 0 → HeadBad q) (h1 : 0 < i → ¬ Num q) : Spoilt way j (ps.take i ++ [q] ++ ps.drop k) := by
  have hmem : ∀ p ∈ ps.take i ++ [q] ++ ps.drop k, Fine p 1000 := fun p hp => by
    rcases List.mem_append.mp hp with hp | hp
    · rcases List.mem_append.mp hp with hp | hp
      · exact hP.fine (List.mem_of_mem_take hp)
      · rw [List.mem_singleton.mp hp]
        exact hq
    · exact hP.fine (List.mem_of_mem_drop hp)
  have hlen : (ps.take i ++ [q] ++ ps.drop k).length ≤ 100 := by
    rw [List.length_append, List.length_append, List.length_take, List.length_drop, List.length_cons, List.length_nil]
    omega
  have hrest : 0 < i → BadRest (ps.take i ++ [q] ++ ps.drop k) := fun hi => by
    cases ps with
    | nil => exact absurd rfl hP.ne
    | cons p r =>
      obtain ⟨i', rfl⟩ : ∃ i', i = i' + 1 := ⟨i - 1, by omega⟩
      refine ⟨q, ?_, h1 hi⟩
      show q ∈ r.take i' ++ [q] ++ (p :: r).drop k
      exact List.mem_append_left _ (List.mem_append_right _ (List.mem_singleton.mpr rfl))
  refine ⟨⟨?_, fun p hp => (hmem p hp).1, fun p hp => (hmem p hp).len, hlen⟩, ?_, fun g1 g2 g3 => hrest (by omega)⟩
  · intro e
    have := congrArg List.length e
    rw [List.length_append, List.length_append, List.length_cons, List.length_nil] at this
    omega
  · rcases Nat.eq_zero_or_pos i with hi | hi
    · subst hi
      exact headBad (h0 rfl)
    · exact (hrest hi).bad
/-- a sign ahead -/
theorem ahead_bad {p s : Str} {c : Nat} (hs : tl s = [c]) (h1 : c < 48 ∨ 58 < c) : HeadBad (s ++ p) ∧ ¬ Num (s ++ p) := by
  have hm : c ∈ tl (s ++ p) := by
    rw [tl_append, hs]
    exact List.mem_append_left _ (List.mem_singleton.mpr rfl)
  exact ⟨headBad_sign hm h1, notNum_sign hm (by omega)⟩
theorem behind_bad {p s : Str} {c : Nat} (hs : tl s = [c]) (h1 : c < 48 ∨ 58 < c) : HeadBad (p ++ s) ∧ ¬ Num (p ++ s) := by
  have hm : c ∈ tl (p ++ s) := by
    rw [tl_append, hs]
    exact List.mem_append_right _ (List.mem_singleton.mpr rfl)
  exact ⟨headBad_sign hm h1, notNum_sign hm (by omega)⟩
/-- a nought ahead -/
theorem nought_bad {i : Nat} {p : Str} (h : PartAt i p) : (i = 0 → HeadBad ("0" ++ p)) ∧ (0 < i → ¬ Num ("0" ++ p)) := by
  obtain ⟨m, hm, e⟩ := h
  refine ⟨fun hi => ?_, fun hi => ?_⟩
  · rw [if_pos hi] at e
    refine headBad_initL (l := 48 :: numL m) ?_ (notNum_zero (r := numL m) rfl (numL_ne m))
    rw [tl_append, sg0, e]
    rfl
  · rw [if_neg (by omega), List.append_nil] at e
    refine notNum_zero (r := numL m) ?_ (numL_ne m)
    rw [tl_append, sg0, e]
    rfl
/-- three figures or four -/
theorem long_bad {i : Nat} {x col : Str} (hx : 3 ≤ (tl x).length) (hc : tl col = if i = 0 then [58] else []) : (i = 0 → HeadBad (x ++ col)) ∧ (0 < i → ¬ Num (x ++ col)) := by
  refine ⟨fun hi => ?_, fun hi => ?_⟩
  · rw [if_pos hi] at hc
    exact headBad_init (q := x) (by rw [tl_append, hc]) (notNum_long hx)
  · refine notNum_long ?_
    rw [tl_append, List.length_append]
    omega
theorem headS_init (long : Nat) : tl (cutS (headS long) none (some (-1))) = numL long := tl_snoc_init (headS_tl long)
theorem headS_fine {long : Nat} (h : long < 100) : Fine (headS long) 3 := PartAt.fine (i := 0) ⟨long, h, headS_tl long⟩
theorem init_fine {long : Nat} (h : long < 100) : Fine (cutS (headS long) none (some (-1))) 3 := fine_tl (headS_init long) (numL_free (by omega)) (Nat.le_trans (numL_len (n := long) (k := 2) (by decide) (by show long < 10 ^ 2; omega)) (by decide))
theorem init_bad (long : Nat) : HeadBad (cutS (headS long) none (some (-1))) := by
  obtain ⟨l, d, e, h1, h2⟩ := numL_last long
  exact headBad_last (c := d) (by rw [headS_init, e]) (by omega)
theorem colon_bad : HeadBad ":" := headBad_initL (l := []) colon_sign (notNum_nil rfl)
theorem colons_bad (long : Nat) : HeadBad (headS long ++ ":") := by
  refine headBad_initL (l := numL long ++ [58]) ?_ (notNum_sign (c := 58) (List.mem_append_right _ (List.mem_singleton.mpr rfl)) (by omega))
  rw [tl_append, headS_tl, colon_sign]
theorem figure_bad (long : Nat) : HeadBad (headS long ++ "0") := headBad_last (l := tl (headS long)) (c := 48) (by rw [tl_append, sg0]) (by omega)
theorem fine_sign {s : Str} {c : Nat} (h : tl s = [c]) (hc : c ≠ 32) : Fine s 1 := fine_tl h (fun hm => hc (List.mem_singleton.mp hm).symm) (Nat.le_refl _)
/-! joins -/
theorem joinL_mem {S : List Nat} {c : Nat} : ∀ {l : List (List Nat)}, c ∈ joinL S l → c ∈ S ∨ ∃ p ∈ l, c ∈ p
  | [], h => by cases h
  | [p], h => .inr ⟨p, List.mem_singleton.mpr rfl, h⟩
  | p :: q :: r, h => by
    rcases List.mem_append.mp (show c ∈ p ++ (S ++ joinL S (q :: r)) from h) with h | h
    · exact .inr ⟨p, List.mem_cons_self, h⟩
    · rcases List.mem_append.mp h with h | h
      · exact .inl h
      · rcases joinL_mem h with h | ⟨z, hz, hc⟩
        · exact .inl h
        · exact .inr ⟨z, List.mem_cons_of_mem _ hz, hc⟩
theorem joinL_lenB {S : List Nat} {B : Nat} : ∀ {l : List (List Nat)}, (∀ p ∈ l, p.length ≤ B) → (joinL S l).length ≤ l.length * (B + S.length)
  | [], _ => Nat.zero_le _
  | [p], h => by
    have := h p List.mem_cons_self
    show p.length ≤ 1 * _
    omega
  | p :: q :: r, h => by
    have h1 := h p List.mem_cons_self
    have ih := joinL_lenB (S := S) (l := q :: r) fun x hx => h x (List.mem_cons_of_mem _ hx)
    show (p ++ (S ++ joinL S (q :: r))).length ≤ ((q :: r).length + 1) * _
    rw [List.length_append, List.length_append, Nat.add_mul]
    omega
theorem join_fine {s : Str} {ps : List Str} {c : Nat} (hs : tl s = [c]) (hc : c ≠ 32) (hp : ∀ p ∈ ps, Fine p 3) (hl : ps.length ≤ 99) : Fine (Txt.join s ps) 1000 := by
  refine ⟨fun hm => ?_, ?_⟩
  · rw [join_eq, tl_join, hs] at hm
    rcases joinL_mem hm with h | ⟨z, hz, h⟩
    · exact hc (List.mem_singleton.mp h).symm
    · obtain ⟨p, hp2, rfl⟩ := List.mem_map.mp hz
      exact (hp p hp2).1 h
  · rw [join_eq, tl_join, hs]
    have h1 := joinL_lenB (S := [c]) (B := 3) (l := ps.map tl) fun p h => by
      obtain ⟨z, hz, rfl⟩ := List.mem_map.mp h
      exact (hp z hz).2
    rw [List.length_map] at h1
    have h3 : ps.length * (3 + [c].length) ≤ 99 * 4 := Nat.mul_le_mul_right _ hl
    omega
theorem join_bad {p q : Str} {r : List Str} : HeadBad (Txt.join "\t" (p :: q :: r)) := by
  refine headBad_sign (c := 9) ?_ (by omega)
  rw [join_eq, tl_join, sgTab]
  exact List.mem_append_right _ (List.mem_append_left _ (List.mem_singleton.mpr rfl))
theorem two_tl (long w : Nat) : tl (Txt.join "" [headS long, numS w]) = numL long ++ [58] ++ numL w := by
  rw [join_eq, tl_join, sgNone]
  show tl (headS long) ++ ([] ++ tl (numS w)) = _
  rw [headS_tl, tl_numS]
  rfl
theorem two_bad (long w : Nat) : HeadBad (Txt.join "" [headS long, numS w]) := by
  obtain ⟨l, d, e, h1, h2⟩ := numL_last w
  exact headBad_last (l := numL long ++ [58] ++ l) (c := d) (by rw [two_tl, e, List.append_assoc (numL long ++ [58]) l [d]]) (by omega)
theorem two_fine {long w : Nat} (h : long < 100) (hw : w < 100) : Fine (Txt.join "" [headS long, numS w]) 1000 := by
  have e := two_tl long w
  have l1 := numL_len (n := long) (k := 2) (by decide) (by show long < 10 ^ 2; omega)
  have l2 := numL_len (n := w) (k := 2) (by decide) (by show w < 10 ^ 2; omega)
  refine fine_tl e (fun hm => ?_) ?_
  · rcases List.mem_append.mp hm with hm | hm
    · rcases List.mem_append.mp hm with hm | hm
      · exact numL_free (by omega) hm
      · have := List.mem_singleton.mp hm
        omega
    · exact numL_free (by omega) hm
  · rw [List.length_append, List.length_append, List.length_cons, List.length_nil]
    omega
/-! readings -/
section
variable {K : Kf} {σ : L2.St} {H H' : Hp} {ta tb te tx : TE} {x y z v : V} {t : TT} {a : Addr}
theorem cutT_from {ps : List Str} {k : Nat} (h : k ≤ ps.length) : cutV (ps.map V.str) (some (k : Int)) none = (ps.drop k).map V.str := by
  unfold cutV
  rw [HT.sIx_nat, HT.sIx_none, List.length_map, Nat.min_eq_left h, ← List.map_drop, List.take_of_length_le (by rw [List.length_map, List.length_drop]; omega)]
theorem cutT_to {ps : List Str} {k : Nat} (h : k ≤ ps.length) : cutV (ps.map V.str) none (some (k : Int)) = (ps.take k).map V.str := by
  unfold cutV
  rw [HT.sIx_nat, HT.sIx_none, List.length_map, Nat.min_eq_left h, List.drop_zero, Nat.sub_zero, ← List.map_take]
theorem cutT_init {ps : List Str} {k : Nat} (h : ps.length = k + 1) : cutV (ps.map V.str) none (some (-1)) = (ps.take k).map V.str := by
  unfold cutV
  have e1 : HT.sIx (ps.map V.str).length (ps.map V.str).length (some (-1)) = k := by
    show (if (-1 : Int) < 0 then ((-1 : Int) + ((ps.map V.str).length : Int)).toNat else min (-1 : Int).toNat (ps.map V.str).length) = _
    rw [if_pos (by decide), List.length_map]
    omega
  rw [e1, HT.sIx_none, List.drop_zero, Nat.sub_zero, ← List.map_take]
theorem el_from {tl : TO} {ps : List Str} {k : Nat} {i : Int} (h : Ev te σ H (.ref a)) (h1 : EvO tl σ H (some i)) (hi : i = (k : Int)) (hS : SqL K H a (ps.map V.str)) (hk : k ≤ ps.length) : EvL (tSl (rSlL K) te tl tNoPart) σ H ((ps.drop k).map V.str) := by
  subst hi
  exact el_is (el_sl h h1 eo_none hS) (cutT_from hk)
theorem el_to {th : TO} {ps : List Str} {k : Nat} (h : Ev te σ H (.ref a)) (h1 : EvO th σ H (some (k : Int))) (hS : SqL K H a (ps.map V.str)) (hk : k ≤ ps.length) : EvL (tSl (rSlL K) te tNoPart th) σ H ((ps.take k).map V.str) :=
  el_is (el_sl h eo_none h1 hS) (cutT_to hk)
theorem el_init {th : TO} {ps : List Str} {k : Nat} (h : Ev te σ H (.ref a)) (h1 : EvO th σ H (some (-1))) (hS : SqL K H a (ps.map V.str)) (hk : ps.length = k + 1) : EvL (tSl (rSlL K) te tNoPart th) σ H ((ps.take k).map V.str) :=
  el_is (el_sl h eo_none h1 hS) (cutT_init hk)
theorem el_catS {xs ys : List Str} (ha : EvL ta σ H (xs.map V.str)) (hb : EvL tb σ H (ys.map V.str)) (hz : xs.length + ys.length ≤ 1000) : EvL (tOp rCat ta tb) σ H ((xs ++ ys).map V.str) :=
  el_is (el_catLL ha hb (by rw [List.length_map, List.length_map]; omega)) List.map_append.symm
theorem el_one {q : Str} (h : Ev te σ H (.str q)) : EvL (tLst (tCons te tNil)) σ H ([q].map V.str) := el_lst (ea_cons h ea_nil) (Nat.le_of_ble_eq_true rfl)
theorem el_if {b : Bool} {xs : List V} (h : EvT t σ H b) (h1 : b = true → EvL ta σ H xs) (h2 : b = false → EvL tb σ H xs) : EvL (tIf t ta tb) σ H xs := fun H1 e Q q => h H1 e _ fun H2 e2 => by
  cases b with
  | true =>
    show ta σ H2 Q
    exact h1 rfl H2 (e.trans e2) Q fun p H3 np e3 hp => q p H3 (fresh_back e2 np) (e2.trans e3) hp
  | false =>
    show tb σ H2 Q
    exact h2 rfl H2 (e.trans e2) Q fun p H3 np e3 hp => q p H3 (fresh_back e2 np) (e2.trans e3) hp
theorem sum_le {ys : List Str} {B : Nat} : (∀ y ∈ ys, y.length ≤ B) → (ys.map (·.length)).sum ≤ ys.length * B := by
  induction ys with
  | nil => exact fun _ => Nat.zero_le _
  | cons y ys ih =>
    intro h
    have h1 := h y List.mem_cons_self
    have h2 := ih fun z hz => h z (List.mem_cons_of_mem _ hz)
    rw [List.map_cons, List.sum_cons, List.length_cons, Nat.add_mul]
    omega
theorem join_room {b : Str} {ys : List Str} (h : ∀ y ∈ ys, y.length ≤ 1000) (hl : ys.length ≤ 100) (hb : b.length ≤ 1) : (ys.map (·.length)).sum + ys.length * b.length ≤ 16777216 := by
  have h1 := sum_le h
  have h2 : ys.length * 1000 ≤ 100 * 1000 := Nat.mul_le_mul_right _ hl
  have h3 : ys.length * b.length ≤ 100 * 1 := Nat.mul_le_mul hl hb
  omega
theorem ev_join {b : Str} {ys : List Str} (ha : Ev ta σ H (.str b)) (hb : Ev tb σ H (.ref a)) (hS : SqL K H a (ys.map V.str)) (hz : (ys.map (·.length)).sum + ys.length * b.length ≤ 16777216) : Ev (tBM K "str" (rJoin K) ta (tCons tb tNil)) σ H (.str (Txt.join b ys)) := fun H1 e Q q =>
  ha H1 e _ fun H2 e2 => ⟨rfl, hb H2 (e.trans e2) _ fun H3 e3 => ⟨b, a, ys, rfl, rfl, Or.inl (ex_l ((e.trans e2).trans e3) hS), hz, q H3 (e2.trans e3)⟩⟩
theorem ev_joinN {b : Str} {ys : List Str} (ha : Ev ta σ H (.str b)) (hb : EvL tb σ H (ys.map V.str)) (hz : (ys.map (·.length)).sum + ys.length * b.length ≤ 16777216) : Ev (tBM K "str" (rJoin K) ta (tCons tb tNil)) σ H (.str (Txt.join b ys)) := fun H1 e Q q =>
  ha H1 e _ fun H2 e2 => ⟨rfl, hb H2 (e.trans e2) _ fun p H3 np e3 hp => ⟨b, p, ys, rfl, rfl, Or.inl (sq_of hp), hz, q H3 (e2.trans e3)⟩⟩
theorem ev_at {ps : List Str} {i : Nat} {p : Str} (ha : Ev ta σ H (.ref a)) (hb : Ev tb σ H (.int (i : Int))) (hS : SqL K H a (ps.map V.str)) (hp : ps[i]? = some p) : Ev (tOp (rIxL K) ta tb) σ H (.str p) :=
  ev_ixL ha hb hS (L2.atI_nat (by rw [List.getElem?_map, hp]; rfl))
theorem ev_lastS {ps : List Str} {k : Nat} {p : Str} (ha : Ev ta σ H (.ref a)) (hb : Ev tb σ H (.int (-1))) (hS : SqL K H a (ps.map V.str)) (hk : ps.length = k + 1) (hp : ps[k]? = some p) : Ev (tOp (rIxL K) ta tb) σ H (.str p) := by
  refine ev_ixL ha hb hS ?_
  have e : ps = ps.take k ++ [p] := by
    rw [← take_succ_of hp, ← hk, List.take_length]
  rw [e, List.map_append]
  exact atI_last _ _
end
end Wm

namespace Wm
open PySem PySem.Spec PyProof.Rows L2 Evl TL
def top (i : Nat) : Stmt := PySem.Challenge.pw_wishmoor_k22_read.main.body.getD i (.Pass ⟨0, 0, 0, 0⟩)
section
variable {P : Program} {w : World} {K : Kf} {mg : Mg} {base : Heap}
abbrev s_l_cell_at : Stmt := top 16
abbrev N_l_cell_at : List Str := ["script", "k"]
theorem sc_l_cell_at : FnScope N_l_cell_at ["script", "k"] (defScope s_l_cell_at) := ⟨rfl, rfl, rfl, by decide +kernel, rfl, by decide +kernel, by decide +kernel⟩
theorem bw_l_cell_at : BindsWell "_law_cell_at" s_l_cell_at ["script", "k"] := fun _ _ _ _ _ _ us hl => match us, hl with | [_, _], _ => rfl

def cellAt (ns : List Int) (z : Int) : Int := if z < ns.length then ns.getD z.toNat 0 else 0
def sp_l_cell_at (K : Kf) : Sp := fun vs H Q _ => ∃ (a : Addr) (ns : List Int) (z : Int), vs = [.ref a, .int z] ∧ SqL K H a (ns.map V.int) ∧ 0 ≤ z ∧ RetV (.int (cellAt ns z)) H Q
theorem sv_cell {K : Kf} {σ : L2.St} {H : Hp} {E : XK} {ta : TA} {a : Addr} {ns : List Int} {z : Int} (h : EvA ta σ H [.ref a, .int z]) (hS : SqL K H a (ns.map V.int)) (hz : 0 ≤ z) : Ev (tCall (sp_l_cell_at K) [] E ta) σ H (.int (cellAt ns z)) :=
  ev_callV h fun H1 e Q q E => ⟨a, ns, z, rfl, ex_l e hS, hz, q⟩
local macro_rules | `(tactic| walk_at "call") => `(tactic| ((with_reducible refine' Wm.sv_cell ?ha ?hb ?hc); (case ha => walk_at "ea"); (case hb => walk_at "sq"); (case hc => omega)))
theorem ok_l_cell_at (D : Def K mg "_law_cell_at" s_l_cell_at) (T : Txt mg)  : Own P w K mg base CX0 1 "_law_cell_at" ["script", "k"] (sp_l_cell_at K) := by
  refine D.calm sc_l_cell_at bw_l_cell_at (fun vs H Q E h => ?_) (fun f cdv A outer s H vs Q E hr h => ?_)
  · obtain ⟨a, ns, z, rfl, _⟩ := h
    rfl
  · obtain ⟨a, ns, z, rfl, hS, hz, kQ⟩ := h
    refine ⟨_, (pss_cons (ps_if (pt_cmpR op_lt (pv 1) (pe_callB cr_len (by rfl) T.len PySem.boot_len (pa_cons (pv 0) pa_nil)) (nomark _))
        (pss_one (ps_ret (pe_ix ix_list (pv 0) (pv 1) (fun _ _ => rfl))))
        pss_nil)
        (pss_one (ps_ret pe_int))), ?_⟩
    try dsimp only [cxOf]
    refine q_when (by walk_at "et") (fun hb H1 e1 => ?_) (fun hb H1 e1 => ?_)
    · have hz2 := of_decide_eq_true hb
      rw [List.length_map] at hz2
      refine s_ret (by walk_at "ev") fun H2 e2 => ?_
      have hk := kQ H2 (by walk_at "ex")
      unfold cellAt at hk
      rw [if_pos hz2] at hk
      exact hk
    · have hz2 := of_decide_eq_false hb
      rw [List.length_map] at hz2
      refine s_ret (by walk_at "ev") fun H2 e2 => ?_
      have hk := kQ H2 (by walk_at "ex")
      unfold cellAt at hk
      rw [if_neg hz2] at hk
      exact hk

abbrev s_l_quay_by : Stmt := top 17
abbrev N_l_quay_by : List Str := ["script", "long", "boats", "way", "wishes", "k", "cell"]
theorem sc_l_quay_by : FnScope N_l_quay_by ["script"] (defScope s_l_quay_by) := ⟨rfl, rfl, rfl, by decide +kernel, rfl, by decide +kernel, by decide +kernel⟩
theorem bw_l_quay_by : BindsWell "_law_quay_by" s_l_quay_by ["script"] := fun _ _ _ _ _ _ us hl => match us, hl with | [_], _ => rfl

def RowP (x y : V) (H : Hp) : Prop := ∃ (long : Nat) (ws : List Nat) (q : Addr), x = .int (long : Int) ∧ y = .ref q ∧ Row long ws ∧ H q = some (.lst (vn ws))
def sp_l_quay_by (K : Kf) : Sp := fun vs H Q _ => ∃ (a : Addr) (ns : List Int), vs = [.ref a] ∧ SqL K H a (ns.map V.int) ∧ ∀ p x y H2, Ex H H2 → H2 p = some (.tup [x, y]) → RowP x y H2 → Q (.ref p) H2
theorem sv_quay_by {K : Kf} {σ : L2.St} {H : Hp} {E : XK} {ta : TA} {a : Addr} {ns : List Int} (h : EvA ta σ H [.ref a]) (hS : SqL K H a (ns.map V.int)) : EvPair (tCall (sp_l_quay_by K) [] E ta) σ H RowP :=
  ep_call h fun H1 e Q q E => ⟨a, ns, rfl, ex_l e hS, q⟩
theorem ok_l_quay_by (D : Def K mg "_law_quay_by" s_l_quay_by) (T : Txt mg) (O_l_cell_at : Own P w K mg base CX0 1 "_law_cell_at" ["script", "k"] (sp_l_cell_at K)) : Own P w K mg base CX0 2 "_law_quay_by" ["script"] (sp_l_quay_by K) := by
  refine D.calm sc_l_quay_by bw_l_quay_by (fun vs H Q E h => ?_) (fun f cdv A outer s H vs Q E hr h => ?_)
  · obtain ⟨a, ns, rfl, _⟩ := h
    rfl
  · obtain ⟨a, ns, rfl, hS, kQ⟩ := h
    have hr_l_cell_at : Room 1 _ := hr.mono (by decide)
    refine ⟨_, (pss_cons (ps_set (i := 1) sc_l_quay_by.nd rfl (Or.inl rfl) (pe_op op_add pe_int (pe_op op_mod (pe_own O_l_cell_at hr_l_cell_at pass0 (pa_cons (pv 0) (pa_cons pe_int pa_nil))) pe_int)))
        (pss_cons (ps_if (pt_cmpR op_eq (pe_op op_mod (pe_op op_fdiv (pe_own O_l_cell_at hr_l_cell_at pass0 (pa_cons (pv 0) (pa_cons pe_int pa_nil))) pe_int) pe_int) pe_int (nomark _))
        (pss_one (ps_set (i := 1) sc_l_quay_by.nd rfl (Or.inl rfl) (pe_op op_add pe_int (pe_op op_mod (pe_op op_fdiv (pe_own O_l_cell_at hr_l_cell_at pass0 (pa_cons (pv 0) (pa_cons pe_int pa_nil))) pe_int) pe_int))))
        pss_nil)
        (pss_cons (ps_set (i := 2) sc_l_quay_by.nd rfl (Or.inl rfl) (pv 1))
        (pss_cons (ps_if (pt_cmpR op_eq (pe_op op_mod (pe_own O_l_cell_at hr_l_cell_at pass0 (pa_cons (pv 0) (pa_cons pe_int pa_nil))) pe_int) pe_int (nomark _))
        (pss_one (ps_set (i := 2) sc_l_quay_by.nd rfl (Or.inl rfl) (pe_op op_mod (pe_op op_fdiv (pe_own O_l_cell_at hr_l_cell_at pass0 (pa_cons (pv 0) (pa_cons pe_int pa_nil))) pe_int) (pe_op op_add (pv 1) pe_int))))
        pss_nil)
        (pss_cons (ps_set (i := 3) sc_l_quay_by.nd rfl (Or.inl rfl) (pe_op op_mod (pe_own O_l_cell_at hr_l_cell_at pass0 (pa_cons (pv 0) (pa_cons pe_int pa_nil))) pe_int))
        (pss_cons (ps_set (i := 4) sc_l_quay_by.nd rfl (Or.inl rfl) (pe_lst pa_nil))
        (pss_cons (ps_for PassesOwn.never rfl (pi_range1 (by rfl) T.range (pa_cons (pv 2) pa_nil)) (pg_name (i := 5) sc_l_quay_by.nd rfl (Or.inl rfl))
        (pss_cons (ps_set (i := 6) sc_l_quay_by.nd rfl (Or.inl rfl) (pe_own O_l_cell_at hr_l_cell_at pass0 (pa_cons (pv 0) (pa_cons (pe_op op_add pe_int (pe_op op_mod (pv 5) pe_int)) pa_nil))))
          (pss_one (ps_if (pt_cmpR op_eq (pv 3) pe_int (nomark _))
          (pss_one (ps_expr (pe_bm PySem.F.plainAttrs_list PySem.F.slot_list_append PySem.F.type_list_append mt_append (pv 4) (pa_cons (pe_op op_mod (pv 6) (pe_op op_add pe_int (pe_op op_fdiv (pv 1) pe_int))) pa_nil))))
          (pss_one (ps_if (pt_cmpR op_eq (pv 3) pe_int (nomark _))
            (pss_one (ps_expr (pe_bm PySem.F.plainAttrs_list PySem.F.slot_list_append PySem.F.type_list_append mt_append (pv 4) (pa_cons (pe_op op_sub (pe_op op_sub (pv 1) pe_int) (pe_op op_mod (pv 6) (pe_op op_add pe_int (pe_op op_fdiv (pv 1) pe_int)))) pa_nil))))
            (pss_one (ps_if (pt_cmpR op_eq (pv 3) pe_int (nomark _))
              (pss_one (ps_expr (pe_bm PySem.F.plainAttrs_list PySem.F.slot_list_append PySem.F.type_list_append mt_append (pv 4) (pa_cons (pe_op op_mod (pv 6) (pe_op op_add pe_int (pv 5))) pa_nil))))
              (pss_one (ps_expr (pe_bm PySem.F.plainAttrs_list PySem.F.slot_list_append PySem.F.type_list_append mt_append (pv 4) (pa_cons (pe_op op_mod (pv 6) (pv 1)) pa_nil))))))))))))
        (pss_one (ps_ret (pe_tup (pa_cons (pv 1) (pa_cons (pv 4) pa_nil)))))))))))), ?_⟩
    try dsimp only [cxOf]
    refine q_asg (by walk_at "ev") fun H1 e1 => ?_
    obtain ⟨n0, en0, h1, h8⟩ : ∃ n : Nat, 1 + cellAt ns 0 % 8 = (n : Int) ∧ 1 ≤ n ∧ n ≤ 40 := ⟨(1 + cellAt ns 0 % 8).toNat, by omega, by omega, by omega⟩
    rw [en0]
    refine q_ifP (fun v => ∃ n : Nat, v = .int (n : Int) ∧ 1 ≤ n ∧ n ≤ 40) (by walk_at "et") (fun _ => ⟨_, by walk_at "ev", (1 + cellAt ns 0 / 24 % 40).toNat, congrArg V.int (by omega), by omega, by omega⟩) (fun _ => ⟨_, rfl, n0, rfl, h1, h8⟩) ?_
    rintro v H2 ⟨long, rfl, l1, l2⟩ e2
    refine q_asg (by walk_at "ev") fun H3 e3 => ?_
    refine q_ifP (fun v => ∃ n : Nat, v = .int (n : Int) ∧ n ≤ long) (by walk_at "et") (fun _ => ?_) (fun _ => ⟨_, rfl, long, rfl, Nat.le_refl _⟩) ?_
    · obtain ⟨w, hw, hl⟩ := mod_nat (cellAt ns 1 / 3) (m := (long : Int) + 1) (n := long + 1) (by omega) (by omega)
      exact ⟨_, by walk_at "ev", w, congrArg V.int hw, by omega⟩
    rintro v H4 ⟨boats, rfl, b1⟩ e4
    refine q_asg (by walk_at "ev") fun H5 e5 => ?_
    refine q_asgL (by walk_at "el") fun wp H6 nwp e6 hwp => ?_
    have eH6 : Ex H H6 := by walk_at "ex"
    have nwp0 : H wp = none := fresh_back (((((e1.trans e2).trans e3).trans e4)).trans e5) nwp
    generalize cellAt ns 2 % 4 = way
    refine q_forR1 (n := (boats : Int)) (by walk_at "ea") (by omega) (fun i σ' H' => ∃ o5 o6 acc, σ' = [some (.ref a), some (.int (long : Int)), some (.int (boats : Int)), some (.int way), some (.ref wp), o5, o6] ∧ Ex H H' ∧ H' wp = some (.lst (vn acc)) ∧ acc.length = i ∧ ∀ w ∈ acc, w < long)
      (fun H7 e7 => ⟨none, none, [], rfl, eH6.trans e7, e7 _ _ hwp, rfl, fun w h => by cases h⟩) ?_ ?_
    · rintro i σ' H' hi ⟨o5, o6, acc, rfl, eH, hw, hl, hlt⟩
      refine q_asg (by walk_at "ev") fun H7 e7 => ?_
      generalize cellAt ns (3 + (i : Int) % 50) = cell
      have fin : ∀ (D : Ends) (_ : D.nx = fun σ' H' => ∃ o5 o6 acc, σ' = [some (.ref a), some (.int (long : Int)), some (.int (boats : Int)), some (.int way), some (.ref wp), o5, o6] ∧ Ex H H' ∧ H' wp = some (.lst (vn acc)) ∧ acc.length = i + 1 ∧ ∀ w ∈ acc, w < long) (te : TE) (z : Int) (H8 : Hp), Ex H7 H8 → Ev te ([some (.ref a), some (.int (long : Int)), some (.int (boats : Int)), some (.int way), some (.ref wp), some (.int (i : Int)), some (.int cell)] : L2.St) H8 (.int z) → (∃ w : Nat, z = (w : Int) ∧ w < long) →
          tDrop (tBM K "list" rAppend (tVar 4) (tCons te tNil)) D ([some (.ref a), some (.int (long : Int)), some (.int (boats : Int)), some (.int way), some (.ref wp), some (.int (i : Int)), some (.int cell)] : L2.St) H8 := by
        rintro D hD te z H8 e8 hv ⟨w, rfl, hwl⟩
        refine s_app (xs := vn acc) (e8 _ _ (e7 _ _ hw)) (ev_var rfl) hv (by rw [vn_len]; omega) fun H9 e9 => ?_
        rw [hD]
        refine ⟨_, _, acc ++ [w], rfl, ((eH.trans e7).trans (e8.trans e9)).mut nwp0, ?_, ?_, fun x hx => ?_⟩
        · rw [upd_same, vn_snoc]
        · rw [List.length_append, hl]
          rfl
        · rcases List.mem_append.mp hx with hx | hx
          · exact hlt x hx
          · rw [List.mem_singleton.mp hx]
            exact hwl
      refine s_if (by walk_at "et") (fun _ H8 e8 => ?_) (fun _ H8 e8 => ?_)
      · obtain ⟨w, hw2, hl2⟩ := mod_nat cell (m := 1 + (long : Int) / 3) (n := long) (by omega) (by omega)
        exact fin _ rfl _ _ H8 e8 (by walk_at "ev") ⟨w, hw2, hl2⟩
      refine s_if (by walk_at "et") (fun _ H9 e9 => ?_) (fun _ H9 e9 => ?_)
      · obtain ⟨w, hw2, hl2⟩ := mod_nat cell (m := 1 + (long : Int) / 3) (n := long) (by omega) (by omega)
        exact fin _ rfl _ _ H9 (e8.trans e9) (by walk_at "ev") ⟨long - 1 - w, by omega, by omega⟩
      refine s_if (by walk_at "et") (fun _ H10 e10 => ?_) (fun _ H10 e10 => ?_)
      · obtain ⟨w, hw2, hl2⟩ := mod_nat cell (m := 1 + (i : Int)) (n := long) (by omega) (by omega)
        exact fin _ rfl _ _ H10 ((e8.trans e9).trans e10) (by walk_at "ev") ⟨w, hw2, hl2⟩
      · obtain ⟨w, hw2, hl2⟩ := mod_nat cell (m := (long : Int)) (n := long) (by omega) (by omega)
        exact fin _ rfl _ _ H10 ((e8.trans e9).trans e10) (by walk_at "ev") ⟨w, hw2, hl2⟩
    · rintro σ' H' ⟨o5, o6, acc, rfl, eH, hw, hl, hlt⟩
      refine s_retU (by walk_at "eu") fun p H7 np e7 hp => ?_
      exact kQ p _ _ H7 (eH.trans e7) hp ⟨long, acc, wp, rfl, rfl, ⟨l1, l2, by omega, hlt⟩, e7 _ _ hw⟩

abbrev s_l_spoilt : Stmt := top 20
abbrev N_l_spoilt : List Str := ["parts", "way", "at", "colon"]
theorem sc_l_spoilt : FnScope N_l_spoilt ["parts", "way", "at"] (defScope s_l_spoilt) := ⟨rfl, rfl, rfl, by decide +kernel, rfl, by decide +kernel, by decide +kernel⟩
theorem bw_l_spoilt : BindsWell "_law_spoilt" s_l_spoilt ["parts", "way", "at"] := fun _ _ _ _ _ _ us hl => match us, hl with | [_, _, _], _ => rfl

theorem sz1 {ps : List Str} {q : Str} {k : Nat} (h : ps.length ≤ 99) : [q].length + (ps.drop k).length ≤ 1000 := by
  rw [List.length_drop, List.length_cons, List.length_nil]
  omega
theorem sz2 {ps : List Str} {q : Str} {k : Nat} (h : ps.length ≤ 99) : (ps.take k).length + [q].length ≤ 1000 := by
  rw [List.length_take, List.length_cons, List.length_nil]
  omega
theorem sz3 {ps : List Str} {q : Str} {i k : Nat} (h : ps.length ≤ 99) : (ps.take i ++ [q]).length + (ps.drop k).length ≤ 1000 := by
  rw [List.length_append, List.length_take, List.length_drop, List.length_cons, List.length_nil]
  omega
theorem spoil_end {way : Int} {i j : Nat} {q : Str} {ps : List Str} (hP : Parts ps) (hl : ps.length ≤ 99) (hi : ps.length = i + 1) (hw : way < 2 ∨ 5 < way) (hq : Fine q 1000) (hb : HeadBad q ∧ ¬ Num q) : Spoilt way j (ps.take i ++ [q]) := by
  have h := spoil_mid (way := way) (i := i) (j := j) (k := ps.length) (q := q) hP hl (by omega) (.inr hw) hq (fun _ => hb.1) (fun _ => hb.2)
  rw [List.drop_length, List.append_nil] at h
  exact h
def sp_l_spoilt (K : Kf) : Sp := fun vs H Q _ => ∃ (a : Addr) (long : Nat) (ws : List Nat) (way : Int) (j : Nat), vs = [.ref a, .int way, .int (j : Int)] ∧ SqL K H a ((rowParts long ws).map V.str) ∧ long < 100 ∧ (∀ w ∈ ws, w < 100) ∧ ws.length ≤ 40 ∧ (j < ws.length + 1 ∨ way = 1 ∧ j ≤ ws.length + 1) ∧ ∀ qs, Spoilt way j qs → RetL (qs.map V.str) H Q
def EvSp (te : TE) (σ : L2.St) (H : Hp) (way : Int) (j : Nat) : Prop := ∀ H1, Ex H H1 → ∀ Q : VK, (∀ qs, Spoilt way j qs → ∀ p H2, H1 p = none → Ex H1 H2 → H2 p = some (.lst (qs.map V.str)) → Q (.ref p) H2) → te σ H1 Q
theorem sv_spoilt {K : Kf} {σ : L2.St} {H : Hp} {E : XK} {ta : TA} {a : Addr} {long j : Nat} {ws : List Nat} {way : Int} (h : EvA ta σ H [.ref a, .int way, .int (j : Int)]) (hS : SqL K H a ((rowParts long ws).map V.str)) (hl : long < 100) (hw : ∀ w ∈ ws, w < 100) (hn : ws.length ≤ 40) (hj : j < ws.length + 1 ∨ way = 1 ∧ j ≤ ws.length + 1) : EvSp (tCall (sp_l_spoilt K) [] E ta) σ H way j := fun H1 e Q q =>
  h H1 e _ fun H2 e2 => ⟨a, long, ws, way, j, rfl, ex_l (e.trans e2) hS, hl, hw, hn, hj, fun qs hq p H3 np e3 hp => q qs hq p H3 (fresh_back e2 np) (e2.trans e3) hp⟩
theorem q_asgSp {te : TE} {σ : L2.St} {H : Hp} {way : Int} {i j : Nat} {D : Ends} {tz : TS} (h : EvSp te σ H way j) (k : ∀ qs, Spoilt way j qs → ∀ p H1, H p = none → Ex H H1 → H1 p = some (.lst (qs.map V.str)) → tz D (σ.set i (some (.ref p))) H1) : tSeq (tAsg te (gName i)) tz D σ H :=
  h H (Ex.refl H) _ fun qs hq p H1 np e hp => k qs hq p H1 np e hp
theorem ok_l_spoilt (D : Def K mg "_law_spoilt" s_l_spoilt) (T : Txt mg)  : Own P w K mg base CX0 1 "_law_spoilt" ["parts", "way", "at"] (sp_l_spoilt K) := by
  refine D.calm sc_l_spoilt bw_l_spoilt (fun vs H Q E h => ?_) (fun f cdv A outer s H vs Q E hr h => ?_)
  · obtain ⟨a, long, ws, way, j, rfl, _⟩ := h
    rfl
  · obtain ⟨a, long, ws, way, j, rfl, hS, hl, hw, hn, hjj, kQ⟩ := h
    refine ⟨_, (pss_cons (ps_if (pt_cmpR op_eq (pv 1) pe_int (nomark _))
        (pss_one (ps_ret (pe_op op_cat (pe_lst (pa_cons (pe_slice sl_str (pe_ix ix_list (pv 0) pe_int (fun _ _ => rfl)) po_none (po_some (pe_un un_neg pe_int))) pa_nil)) (pe_slice sl_list (pv 0) (po_some pe_int) po_none))))
        pss_nil)
        (pss_cons (ps_if (pt_cmpR op_eq (pv 1) pe_int (nomark _))
        (pss_one (ps_ret (pe_op op_cat (pe_op op_cat (pe_slice sl_list (pv 0) po_none (po_some (pv 2))) (pe_lst (pa_cons pe_str pa_nil))) (pe_slice sl_list (pv 0) (po_some (pv 2)) po_none))))
        pss_nil)
        (pss_cons (ps_if (pt_cmpR op_eq (pv 1) pe_int (nomark _))
        (pss_one (ps_ret (pe_op op_cat (pe_op op_cat (pe_slice sl_list (pv 0) po_none (po_some (pv 2))) (pe_lst (pa_cons (pe_op op_add_str pe_str (pe_ix ix_list (pv 0) (pv 2) (fun _ _ => rfl))) pa_nil))) (pe_slice sl_list (pv 0) (po_some (pe_op op_add (pv 2) pe_int)) po_none))))
        pss_nil)
        (pss_cons (ps_if (pt_cmpR op_eq (pv 1) pe_int (nomark _))
        (pss_cons (ps_set (i := 3) sc_l_spoilt.nd rfl (Or.inl rfl) (pe_ifExp (pt_cmpR op_eq (pv 2) pe_int (nomark _)) pe_str pe_str))
          (pss_one (ps_ret (pe_op op_cat (pe_op op_cat (pe_slice sl_list (pv 0) po_none (po_some (pv 2))) (pe_lst (pa_cons (pe_op op_add_str (pe_ix ix_list (pe_lst (pa_cons pe_str (pa_cons pe_str (pa_cons pe_str (pa_cons pe_str pa_nil))))) (pe_op op_mod (pe_callB cr_len (by rfl) T.len PySem.boot_len (pa_cons (pv 0) pa_nil)) pe_int) (fun _ _ => rfl)) (pv 3)) pa_nil))) (pe_slice sl_list (pv 0) (po_some (pe_op op_add (pv 2) pe_int)) po_none)))))
        pss_nil)
        (pss_cons (ps_if (pt_cmpR op_eq (pv 1) pe_int (nomark _))
        (pss_one (ps_ret (pe_op op_cat (pe_op op_cat (pe_slice sl_list (pv 0) po_none (po_some (pv 2))) (pe_lst (pa_cons (pe_op op_add_str pe_str (pe_ix ix_list (pv 0) (pv 2) (fun _ _ => rfl))) pa_nil))) (pe_slice sl_list (pv 0) (po_some (pe_op op_add (pv 2) pe_int)) po_none))))
        pss_nil)
        (pss_cons (ps_if (pt_cmpR op_eq (pv 1) pe_int (nomark _))
        (pss_one (ps_ret (pe_op op_cat (pe_op op_cat (pe_slice sl_list (pv 0) po_none (po_some (pv 2))) (pe_lst (pa_cons (pe_op op_add_str (pe_ix ix_list (pv 0) (pv 2) (fun _ _ => rfl)) pe_str) pa_nil))) (pe_slice sl_list (pv 0) (po_some (pe_op op_add (pv 2) pe_int)) po_none))))
        pss_nil)
        (pss_cons (ps_if (pt_cmpR op_eq (pv 1) pe_int (nomark _))
        (pss_one (ps_ret (pe_op op_cat (pe_lst (pa_cons pe_str pa_nil)) (pe_slice sl_list (pv 0) (po_some pe_int) po_none))))
        pss_nil)
        (pss_cons (ps_if (pt_cmpR op_eq (pv 1) pe_int (nomark _))
        (pss_one (ps_ret (pe_op op_cat (pe_slice sl_list (pv 0) po_none (po_some (pe_un un_neg pe_int))) (pe_lst (pa_cons (pe_op op_add_str (pe_ix ix_list (pv 0) (pe_un un_neg pe_int) (fun _ _ => rfl)) pe_str) pa_nil)))))
        pss_nil)
        (pss_cons (ps_if (pt_cmpR op_eq (pv 1) pe_int (nomark _))
        (pss_one (ps_ret (pe_ifExp (pt_cmpR op_gt (pe_callB cr_len (by rfl) T.len PySem.boot_len (pa_cons (pv 0) pa_nil)) pe_int (nomark _)) (pe_op op_cat (pe_lst (pa_cons (pe_bm PySem.F.plainAttrs_str PySem.F.slot_str_join PySem.F.type_str_join mt_join pe_str (pa_cons (pe_slice sl_list (pv 0) po_none (po_some pe_int)) pa_nil)) pa_nil)) (pe_slice sl_list (pv 0) (po_some pe_int) po_none)) (pe_lst (pa_cons (pe_op op_add_str (pe_ix ix_list (pv 0) pe_int (fun _ _ => rfl)) pe_str) pa_nil)))))
        pss_nil)
        (pss_cons (ps_if (pt_cmpR op_eq (pv 1) pe_int (nomark _))
        (pss_one (ps_ret (pe_op op_cat (pe_lst (pa_cons (pe_op op_add_str (pe_ix ix_list (pv 0) pe_int (fun _ _ => rfl)) pe_str) pa_nil)) (pe_slice sl_list (pv 0) (po_some pe_int) po_none))))
        pss_nil)
        (pss_cons (ps_if (pt_cmpR op_eq (pv 1) pe_int (nomark _))
        (pss_one (ps_ret (pe_op op_cat (pe_lst (pa_cons (pe_slice sl_str (pe_ix ix_list (pv 0) pe_int (fun _ _ => rfl)) po_none (po_some (pe_un un_neg pe_int))) (pa_cons pe_str pa_nil))) (pe_slice sl_list (pv 0) (po_some pe_int) po_none))))
        pss_nil)
        (pss_cons (ps_if (pt_cmpR op_eq (pv 1) pe_int (nomark _))
        (pss_one (ps_ret (pe_op op_cat (pe_op op_cat (pe_slice sl_list (pv 0) po_none (po_some (pv 2))) (pe_lst (pa_cons (pe_op op_add_str pe_str (pe_ix ix_list (pv 0) (pv 2) (fun _ _ => rfl))) pa_nil))) (pe_slice sl_list (pv 0) (po_some (pe_op op_add (pv 2) pe_int)) po_none))))
        pss_nil)
        (pss_cons (ps_if (pt_cmpR op_eq (pv 1) pe_int (nomark _))
        (pss_one (ps_ret (pe_op op_cat (pe_op op_cat (pe_slice sl_list (pv 0) po_none (po_some (pv 2))) (pe_lst (pa_cons (pe_op op_add_str (pe_ix ix_list (pv 0) (pv 2) (fun _ _ => rfl)) pe_str) pa_nil))) (pe_slice sl_list (pv 0) (po_some (pe_op op_add (pv 2) pe_int)) po_none))))
        pss_nil)
        (pss_cons (ps_if (pt_cmpR op_eq (pv 1) pe_int (nomark _))
        (pss_one (ps_ret (pe_op op_cat (pe_op op_cat (pe_slice sl_list (pv 0) po_none (po_some (pv 2))) (pe_lst (pa_cons (pe_op op_add_str (pe_ix ix_list (pv 0) (pv 2) (fun _ _ => rfl)) pe_str) pa_nil))) (pe_slice sl_list (pv 0) (po_some (pe_op op_add (pv 2) pe_int)) po_none))))
        pss_nil)
        (pss_cons (ps_if (pt_cmpR op_eq (pv 1) pe_int (nomark _))
        (pss_one (ps_ret (pe_ifExp (pt_cmpR op_gt (pe_callB cr_len (by rfl) T.len PySem.boot_len (pa_cons (pv 0) pa_nil)) pe_int (nomark _)) (pe_lst (pa_cons (pe_bm PySem.F.plainAttrs_str PySem.F.slot_str_join PySem.F.type_str_join mt_join pe_str (pa_cons (pv 0) pa_nil)) pa_nil)) (pe_lst (pa_cons (pe_op op_add_str (pe_ix ix_list (pv 0) pe_int (fun _ _ => rfl)) pe_str) pa_nil)))))
        pss_nil)
        (pss_one (ps_ret (pe_op op_cat (pe_slice sl_list (pv 0) po_none (po_some (pe_un un_neg pe_int))) (pe_lst (pa_cons (pe_op op_add_str (pe_ix ix_list (pv 0) (pe_un un_neg pe_int) (fun _ _ => rfl)) pe_str) pa_nil)))))))))))))))))))), ?_⟩
    try dsimp only [cxOf]
    have hlen := rowParts_len long ws
    have hP : Parts (rowParts long ws) := rowParts_parts hl hw (by omega)
    have h99 : (rowParts long ws).length ≤ 99 := by omega
    have hdrop : ∀ k, ∀ p ∈ (rowParts long ws).drop k, Fine p 1000 := fun k p hp => hP.fine (List.mem_of_mem_drop hp)
    have hdl : ∀ k, ((rowParts long ws).drop k).length ≤ 99 := fun k => by
      rw [List.length_drop]
      omega
    have h0 : (rowParts long ws)[0]? = some (headS long) := rfl
    have hhf := headS_fine hl
    have hhl := hhf.len
    obtain ⟨pl, hpl, hplA⟩ := rowParts_at hl hw (i := ws.length) (by omega)
    have hpll := hplA.fine.len
    refine q_when (b := decide (V.int way = V.int 0)) (et_test (ev_op (ev_var rfl) ev_c (rv_eq rfl))) (fun hb H' e => ?_) (fun hb H' e => ?_)
    · have kQ : ∀ qs, Spoilt way j qs → RetL (qs.map V.str) H' Q := fun qs h => retL_mono (kQ qs h) e
      have hS := ex_l e hS
      have hway : way = 0 := V.int.inj (of_decide_eq_true hb)
      refine s_retL (el_catS (xs := [cutS (headS long) none (some (-1))]) (ys := (rowParts long ws).drop 1) (el_one (ev_slS (a := headS long) (ev_at (K := K) (i := 0) (ev_var rfl) ev_c hS h0) eo_none (eo_some (ev_un ev_c ru_neg)) (by omega))) (el_from (K := K) (k := 1) (ev_var rfl) (eo_some ev_c) rfl hS (by omega)) (sz1 h99)) fun lp H2 np e2 hlp => kQ _ (spoil_head (by omega) ((init_fine hl).le (by decide)) (hdrop 1) (hdl 1) (init_bad long)) lp H2 np e2 hlp
    have kQ : ∀ qs, Spoilt way j qs → RetL (qs.map V.str) H' Q := fun qs h => retL_mono (kQ qs h) e
    have hS := ex_l e hS
    have n0 : way ≠ 0 := fun h => of_decide_eq_false hb (congrArg V.int h)
    refine q_when (b := decide (V.int way = V.int 1)) (et_test (ev_op (ev_var rfl) ev_c (rv_eq rfl))) (fun hb H' e => ?_) (fun hb H' e => ?_)
    · have kQ : ∀ qs, Spoilt way j qs → RetL (qs.map V.str) H' Q := fun qs h => retL_mono (kQ qs h) e
      have hS := ex_l e hS
      have hway : way = 1 := V.int.inj (of_decide_eq_true hb)
      refine s_retL (el_catS (xs := (rowParts long ws).take j ++ [("" : Str)]) (ys := (rowParts long ws).drop j) (el_catS (xs := (rowParts long ws).take j) (ys := [("" : Str)]) (el_to (K := K) (k := j) (ev_var rfl) (eo_some (ev_var rfl)) hS (by omega)) (el_one ev_c) (sz2 h99)) (el_from (K := K) (k := j) (ev_var rfl) (eo_some (ev_var rfl)) rfl hS (by omega)) (sz3 h99)) fun lp H2 np e2 hlp => kQ _ (spoil_mid hP h99 (Nat.le_refl j) (.inl rfl) (fine_tl sgNone (by decide) (by decide)) (fun _ => headBad_nil sgNone) (fun _ => notNum_nil sgNone)) lp H2 np e2 hlp
    have kQ : ∀ qs, Spoilt way j qs → RetL (qs.map V.str) H' Q := fun qs h => retL_mono (kQ qs h) e
    have hS := ex_l e hS
    have n1 : way ≠ 1 := fun h => of_decide_eq_false hb (congrArg V.int h)
    refine q_when (b := decide (V.int way = V.int 2)) (et_test (ev_op (ev_var rfl) ev_c (rv_eq rfl))) (fun hb H' e => ?_) (fun hb H' e => ?_)
    · have kQ : ∀ qs, Spoilt way j qs → RetL (qs.map V.str) H' Q := fun qs h => retL_mono (kQ qs h) e
      have hS := ex_l e hS
      have hway : way = 2 := V.int.inj (of_decide_eq_true hb)
      obtain ⟨p, hp, hpA⟩ := rowParts_at hl hw (i := j) (by omega)
      have hpl := hpA.fine.len
      refine s_retL (el_catS (xs := (rowParts long ws).take j ++ ["0" ++ p]) (ys := (rowParts long ws).drop (j + 1)) (el_catS (xs := (rowParts long ws).take j) (ys := ["0" ++ p]) (el_to (K := K) (k := j) (ev_var rfl) (eo_some (ev_var rfl)) hS (by omega)) (el_one (ev_op ev_c (ev_at (K := K) (i := j) (ev_var rfl) (ev_var rfl) hS hp) (rv_addS (by rw [len_str "0", sg0, List.length_cons, List.length_nil]; omega)))) (sz2 h99)) (el_from (K := K) (k := j + 1) (i := (j : Int) + 1) (ev_var rfl) (eo_some (ev_op (ev_var rfl) ev_c rv_I0)) rfl hS (by omega)) (sz3 h99)) fun lp H2 np e2 hlp => kQ _ (spoil_mid hP h99 (Nat.le_succ j) (.inl rfl) (((fine_sign sg0 (by decide)).app hpA.fine).le (by decide)) (nought_bad hpA).1 (nought_bad hpA).2) lp H2 np e2 hlp
    have kQ : ∀ qs, Spoilt way j qs → RetL (qs.map V.str) H' Q := fun qs h => retL_mono (kQ qs h) e
    have hS := ex_l e hS
    have n2 : way ≠ 2 := fun h => of_decide_eq_false hb (congrArg V.int h)
    refine q_when (b := decide (V.int way = V.int 3)) (et_test (ev_op (ev_var rfl) ev_c (rv_eq rfl))) (fun hb H' e => ?_) (fun hb H' e => ?_)
    · have kQ : ∀ qs, Spoilt way j qs → RetL (qs.map V.str) H' Q := fun qs h => retL_mono (kQ qs h) e
      have hS := ex_l e hS
      have hway : way = 3 := V.int.inj (of_decide_eq_true hb)
      obtain ⟨col, hcol, hcf, hc1, hc2⟩ : ∃ col : Str, tl col = (if j = 0 then [58] else []) ∧ Fine col 1 ∧ (j = 0 → col = ":") ∧ (j ≠ 0 → col = "") := by
        by_cases c : j = 0
        · exact ⟨":", by rw [if_pos c]; exact colon_sign, fine_sign colon_sign (by decide), fun _ => rfl, fun h => absurd c h⟩
        · exact ⟨"", by rw [if_neg c]; exact sgNone, fine_tl sgNone (by decide) (by decide), fun h => absurd h c, fun _ => rfl⟩
      obtain ⟨x, hx, hx3, hxf⟩ : ∃ x : Str, atI [V.str "100", V.str "240", V.str "999", V.str "1000"] (((rowParts long ws).length : Int) % 4) = some (.str x) ∧ 3 ≤ (tl x).length ∧ Fine x 4 := by
        have h4 : ((rowParts long ws).length : Int) % 4 = 0 ∨ ((rowParts long ws).length : Int) % 4 = 1 ∨ ((rowParts long ws).length : Int) % 4 = 2 ∨ ((rowParts long ws).length : Int) % 4 = 3 := by omega
        rcases h4 with h | h | h | h
        · rw [h]
          exact ⟨"100", rfl, by decide +kernel, by decide +kernel, by decide +kernel⟩
        · rw [h]
          exact ⟨"240", rfl, by decide +kernel, by decide +kernel, by decide +kernel⟩
        · rw [h]
          exact ⟨"999", rfl, by decide +kernel, by decide +kernel, by decide +kernel⟩
        · rw [h]
          exact ⟨"1000", rfl, by decide +kernel, by decide +kernel, by decide +kernel⟩
      have hcl := hcf.len
      have hxl := hxf.len
      refine q_asg (v := .str col) (ev_if (b := decide (V.int (j : Int) = V.int 0)) (et_test (ev_op (ev_var rfl) ev_c (rv_eq rfl))) (fun h => ev_is ev_c (congrArg V.str (hc1 (by have := V.int.inj (of_decide_eq_true h); omega)).symm)) (fun h => ev_is ev_c (congrArg V.str (hc2 (fun c => of_decide_eq_false h (by rw [c]; rfl))).symm))) fun H'' e' => ?_
      have hS := ex_l e' hS
      have kQ : ∀ qs, Spoilt way j qs → RetL (qs.map V.str) H'' Q := fun qs h => retL_mono (kQ qs h) e'
      refine s_retL (el_catS (xs := (rowParts long ws).take j ++ [x ++ col]) (ys := (rowParts long ws).drop (j + 1)) (el_catS (xs := (rowParts long ws).take j) (ys := [x ++ col]) (el_to (K := K) (k := j) (ev_var rfl) (eo_some (ev_var rfl)) hS (by omega)) (el_one (ev_op (ev_ixNL (i := ((rowParts long ws).length : Int) % 4) (el_lst (ea_cons ev_c (ea_cons ev_c (ea_cons ev_c (ea_cons ev_c ea_nil)))) (Nat.le_of_ble_eq_true rfl)) (fun H3 e3 => ev_op (ev_is (ev_len (K := K) (ev_var rfl) (ex_l e3 hS)) (by rw [List.length_map])) ev_c (rv_I (by walk_at "side"))) hx) (ev_var rfl) (rv_addS (by omega)))) (sz2 h99)) (el_from (K := K) (k := j + 1) (i := (j : Int) + 1) (ev_var rfl) (eo_some (ev_op (ev_var rfl) ev_c rv_I0)) rfl hS (by omega)) (sz3 h99)) fun lp H2 np e2 hlp => kQ _ (spoil_mid hP h99 (Nat.le_succ j) (.inl rfl) ((hxf.app hcf).le (by decide)) (long_bad hx3 hcol).1 (long_bad hx3 hcol).2) lp H2 np e2 hlp
    have kQ : ∀ qs, Spoilt way j qs → RetL (qs.map V.str) H' Q := fun qs h => retL_mono (kQ qs h) e
    have hS := ex_l e hS
    have n3 : way ≠ 3 := fun h => of_decide_eq_false hb (congrArg V.int h)
    refine q_when (b := decide (V.int way = V.int 4)) (et_test (ev_op (ev_var rfl) ev_c (rv_eq rfl))) (fun hb H' e => ?_) (fun hb H' e => ?_)
    · have kQ : ∀ qs, Spoilt way j qs → RetL (qs.map V.str) H' Q := fun qs h => retL_mono (kQ qs h) e
      have hS := ex_l e hS
      have hway : way = 4 := V.int.inj (of_decide_eq_true hb)
      obtain ⟨p, hp, hpA⟩ := rowParts_at hl hw (i := j) (by omega)
      have hpl := hpA.fine.len
      refine s_retL (el_catS (xs := (rowParts long ws).take j ++ ["-" ++ p]) (ys := (rowParts long ws).drop (j + 1)) (el_catS (xs := (rowParts long ws).take j) (ys := ["-" ++ p]) (el_to (K := K) (k := j) (ev_var rfl) (eo_some (ev_var rfl)) hS (by omega)) (el_one (ev_op ev_c (ev_at (K := K) (i := j) (ev_var rfl) (ev_var rfl) hS hp) (rv_addS (by rw [len_str "-", sgMinus, List.length_cons, List.length_nil]; omega)))) (sz2 h99)) (el_from (K := K) (k := j + 1) (i := (j : Int) + 1) (ev_var rfl) (eo_some (ev_op (ev_var rfl) ev_c rv_I0)) rfl hS (by omega)) (sz3 h99)) fun lp H2 np e2 hlp => kQ _ (spoil_mid hP h99 (Nat.le_succ j) (.inl rfl) (((fine_sign sgMinus (by decide)).app hpA.fine).le (by decide)) (fun _ => (ahead_bad (p := p) sgMinus (by omega)).1) (fun _ => (ahead_bad (p := p) sgMinus (by omega)).2)) lp H2 np e2 hlp
    have kQ : ∀ qs, Spoilt way j qs → RetL (qs.map V.str) H' Q := fun qs h => retL_mono (kQ qs h) e
    have hS := ex_l e hS
    have n4 : way ≠ 4 := fun h => of_decide_eq_false hb (congrArg V.int h)
    refine q_when (b := decide (V.int way = V.int 5)) (et_test (ev_op (ev_var rfl) ev_c (rv_eq rfl))) (fun hb H' e => ?_) (fun hb H' e => ?_)
    · have kQ : ∀ qs, Spoilt way j qs → RetL (qs.map V.str) H' Q := fun qs h => retL_mono (kQ qs h) e
      have hS := ex_l e hS
      have hway : way = 5 := V.int.inj (of_decide_eq_true hb)
      obtain ⟨p, hp, hpA⟩ := rowParts_at hl hw (i := j) (by omega)
      have hpl := hpA.fine.len
      refine s_retL (el_catS (xs := (rowParts long ws).take j ++ [p ++ "a"]) (ys := (rowParts long ws).drop (j + 1)) (el_catS (xs := (rowParts long ws).take j) (ys := [p ++ "a"]) (el_to (K := K) (k := j) (ev_var rfl) (eo_some (ev_var rfl)) hS (by omega)) (el_one (ev_op (ev_at (K := K) (i := j) (ev_var rfl) (ev_var rfl) hS hp) ev_c (rv_addS (by rw [len_str "a", sgA, List.length_cons, List.length_nil]; omega)))) (sz2 h99)) (el_from (K := K) (k := j + 1) (i := (j : Int) + 1) (ev_var rfl) (eo_some (ev_op (ev_var rfl) ev_c rv_I0)) rfl hS (by omega)) (sz3 h99)) fun lp H2 np e2 hlp => kQ _ (spoil_mid hP h99 (Nat.le_succ j) (.inl rfl) ((hpA.fine.app (fine_sign sgA (by decide))).le (by decide)) (fun _ => (behind_bad (p := p) sgA (by omega)).1) (fun _ => (behind_bad (p := p) sgA (by omega)).2)) lp H2 np e2 hlp
    have kQ : ∀ qs, Spoilt way j qs → RetL (qs.map V.str) H' Q := fun qs h => retL_mono (kQ qs h) e
    have hS := ex_l e hS
    have n5 : way ≠ 5 := fun h => of_decide_eq_false hb (congrArg V.int h)
    refine q_when (b := decide (V.int way = V.int 6)) (et_test (ev_op (ev_var rfl) ev_c (rv_eq rfl))) (fun hb H' e => ?_) (fun hb H' e => ?_)
    · have kQ : ∀ qs, Spoilt way j qs → RetL (qs.map V.str) H' Q := fun qs h => retL_mono (kQ qs h) e
      have hS := ex_l e hS
      have hway : way = 6 := V.int.inj (of_decide_eq_true hb)
      refine s_retL (el_catS (xs := [":"]) (ys := (rowParts long ws).drop 1) (el_one ev_c) (el_from (K := K) (k := 1) (ev_var rfl) (eo_some ev_c) rfl hS (by omega)) (sz1 h99)) fun lp H2 np e2 hlp => kQ _ (spoil_head (by omega) ((fine_sign colon_sign (by decide)).le (by decide)) (hdrop 1) (hdl 1) (colon_bad)) lp H2 np e2 hlp
    have kQ : ∀ qs, Spoilt way j qs → RetL (qs.map V.str) H' Q := fun qs h => retL_mono (kQ qs h) e
    have hS := ex_l e hS
    have n6 : way ≠ 6 := fun h => of_decide_eq_false hb (congrArg V.int h)
    refine q_when (b := decide (V.int way = V.int 7)) (et_test (ev_op (ev_var rfl) ev_c (rv_eq rfl))) (fun hb H' e => ?_) (fun hb H' e => ?_)
    · have kQ : ∀ qs, Spoilt way j qs → RetL (qs.map V.str) H' Q := fun qs h => retL_mono (kQ qs h) e
      have hS := ex_l e hS
      have hway : way = 7 := V.int.inj (of_decide_eq_true hb)
      refine s_retL (el_catS (xs := (rowParts long ws).take ws.length) (ys := [pl ++ "\n"]) (el_init (K := K) (ev_var rfl) (eo_some (ev_un ev_c ru_neg)) hS hlen) (el_one (ev_op (ev_lastS (K := K) (ev_var rfl) (ev_un ev_c ru_neg) hS hlen hpl) ev_c (rv_addS (by rw [len_str "\n", sgNl, List.length_cons, List.length_nil]; omega)))) (sz2 h99)) fun lp H2 np e2 hlp => kQ _ (spoil_end hP h99 hlen (by omega) ((hplA.fine.app (fine_sign sgNl (by decide))).le (by decide)) (behind_bad sgNl (by omega))) lp H2 np e2 hlp
    have kQ : ∀ qs, Spoilt way j qs → RetL (qs.map V.str) H' Q := fun qs h => retL_mono (kQ qs h) e
    have hS := ex_l e hS
    have n7 : way ≠ 7 := fun h => of_decide_eq_false hb (congrArg V.int h)
    refine q_when (b := decide (V.int way = V.int 9)) (et_test (ev_op (ev_var rfl) ev_c (rv_eq rfl))) (fun hb H' e => ?_) (fun hb H' e => ?_)
    · have kQ : ∀ qs, Spoilt way j qs → RetL (qs.map V.str) H' Q := fun qs h => retL_mono (kQ qs h) e
      have hS := ex_l e hS
      have hway : way = 9 := V.int.inj (of_decide_eq_true hb)
      cases ws with
      | nil =>
        refine s_retL (el_if (xs := [headS long ++ "0"].map V.str) (et_test (ev_op (ev_is (ev_len (K := K) (ev_var rfl) hS) (by rw [List.length_map, hlen])) ev_c rv_I0)) (fun h => absurd (of_decide_eq_true h) (by decide)) (fun _ => el_one (ev_op (ev_at (K := K) (i := 0) (ev_var rfl) ev_c hS h0) ev_c (rv_addS (by rw [len_str "0", sg0, List.length_cons, List.length_nil]; omega))))) fun lp H2 np e2 hlp => kQ _ (spoil_head (r := []) (by omega) ((hhf.app (fine_sign sg0 (by decide))).le (by decide)) (fun p hp => by cases hp) (by decide) (figure_bad long)) lp H2 np e2 hlp
      | cons w ws =>
        have hw0 := hw w List.mem_cons_self
        refine s_retL (el_if (xs := ([Txt.join "" [headS long, numS w]] ++ (rowParts long (w :: ws)).drop 2).map V.str) (et_test (ev_op (ev_is (ev_len (K := K) (ev_var rfl) hS) (by rw [List.length_map, hlen])) ev_c rv_I0)) (fun _ => el_catS (xs := [Txt.join "" [headS long, numS w]]) (ys := (rowParts long (w :: ws)).drop 2) (el_one (ev_joinN (K := K) (ys := [headS long, numS w]) ev_c (el_to (K := K) (k := 2) (ev_var rfl) (eo_some ev_c) hS (by rw [hlen, List.length_cons]; omega)) (join_room (fun y hy => (hP.len y (by
          rcases List.mem_cons.mp hy with rfl | hy
          · exact List.mem_cons_self
          · rw [List.mem_singleton.mp hy]
            exact List.mem_cons_of_mem _ List.mem_cons_self))) (by show 2 ≤ 100; decide) (by decide)))) (el_from (K := K) (k := 2) (ev_var rfl) (eo_some ev_c) rfl hS (by rw [hlen, List.length_cons]; omega)) (sz1 h99)) (fun h => absurd (of_decide_eq_false h) (fun g => g (by rw [List.length_cons]; omega)))) fun lp H2 np e2 hlp => kQ _ (spoil_head (by omega) (two_fine hl hw0) (hdrop 2) (hdl 2) (two_bad long w)) lp H2 np e2 hlp
    have kQ : ∀ qs, Spoilt way j qs → RetL (qs.map V.str) H' Q := fun qs h => retL_mono (kQ qs h) e
    have hS := ex_l e hS
    have n9 : way ≠ 9 := fun h => of_decide_eq_false hb (congrArg V.int h)
    refine q_when (b := decide (V.int way = V.int 10)) (et_test (ev_op (ev_var rfl) ev_c (rv_eq rfl))) (fun hb H' e => ?_) (fun hb H' e => ?_)
    · have kQ : ∀ qs, Spoilt way j qs → RetL (qs.map V.str) H' Q := fun qs h => retL_mono (kQ qs h) e
      have hS := ex_l e hS
      have hway : way = 10 := V.int.inj (of_decide_eq_true hb)
      refine s_retL (el_catS (xs := [headS long ++ ":"]) (ys := (rowParts long ws).drop 1) (el_one (ev_op (ev_at (K := K) (i := 0) (ev_var rfl) ev_c hS h0) ev_c (rv_addS (by rw [len_str ":", colon_sign, List.length_cons, List.length_nil]; omega)))) (el_from (K := K) (k := 1) (ev_var rfl) (eo_some ev_c) rfl hS (by omega)) (sz1 h99)) fun lp H2 np e2 hlp => kQ _ (spoil_head (by omega) ((hhf.app (fine_sign colon_sign (by decide))).le (by decide)) (hdrop 1) (hdl 1) (colons_bad long)) lp H2 np e2 hlp
    have kQ : ∀ qs, Spoilt way j qs → RetL (qs.map V.str) H' Q := fun qs h => retL_mono (kQ qs h) e
    have hS := ex_l e hS
    have n10 : way ≠ 10 := fun h => of_decide_eq_false hb (congrArg V.int h)
    refine q_when (b := decide (V.int way = V.int 11)) (et_test (ev_op (ev_var rfl) ev_c (rv_eq rfl))) (fun hb H' e => ?_) (fun hb H' e => ?_)
    · have kQ : ∀ qs, Spoilt way j qs → RetL (qs.map V.str) H' Q := fun qs h => retL_mono (kQ qs h) e
      have hS := ex_l e hS
      have hway : way = 11 := V.int.inj (of_decide_eq_true hb)
      refine s_retL (el_catS (xs := [cutS (headS long) none (some (-1)), ":"]) (ys := (rowParts long ws).drop 1) (el_lst (ea_cons (ev_slS (a := headS long) (ev_at (K := K) (i := 0) (ev_var rfl) ev_c hS h0) eo_none (eo_some (ev_un ev_c ru_neg)) (by omega)) (ea_cons ev_c ea_nil)) (Nat.le_of_ble_eq_true rfl)) (el_from (K := K) (k := 1) (ev_var rfl) (eo_some ev_c) rfl hS (by omega)) (by rw [List.length_drop, List.length_cons, List.length_cons, List.length_nil]; omega)) fun lp H2 np e2 hlp => kQ _ (spoil_head (r := ":" :: (rowParts long ws).drop 1) (by omega) ((init_fine hl).le (by decide)) (fun p hp => by
          rcases List.mem_cons.mp hp with rfl | hp
          · exact (fine_sign colon_sign (by decide)).le (by decide)
          · exact hdrop 1 p hp) (by rw [List.length_cons, List.length_drop]; omega) (init_bad long)) lp H2 np e2 hlp
    have kQ : ∀ qs, Spoilt way j qs → RetL (qs.map V.str) H' Q := fun qs h => retL_mono (kQ qs h) e
    have hS := ex_l e hS
    have n11 : way ≠ 11 := fun h => of_decide_eq_false hb (congrArg V.int h)
    refine q_when (b := decide (V.int way = V.int 12)) (et_test (ev_op (ev_var rfl) ev_c (rv_eq rfl))) (fun hb H' e => ?_) (fun hb H' e => ?_)
    · have kQ : ∀ qs, Spoilt way j qs → RetL (qs.map V.str) H' Q := fun qs h => retL_mono (kQ qs h) e
      have hS := ex_l e hS
      have hway : way = 12 := V.int.inj (of_decide_eq_true hb)
      obtain ⟨p, hp, hpA⟩ := rowParts_at hl hw (i := j) (by omega)
      have hpl := hpA.fine.len
      refine s_retL (el_catS (xs := (rowParts long ws).take j ++ ["+" ++ p]) (ys := (rowParts long ws).drop (j + 1)) (el_catS (xs := (rowParts long ws).take j) (ys := ["+" ++ p]) (el_to (K := K) (k := j) (ev_var rfl) (eo_some (ev_var rfl)) hS (by omega)) (el_one (ev_op ev_c (ev_at (K := K) (i := j) (ev_var rfl) (ev_var rfl) hS hp) (rv_addS (by rw [len_str "+", sgPlus, List.length_cons, List.length_nil]; omega)))) (sz2 h99)) (el_from (K := K) (k := j + 1) (i := (j : Int) + 1) (ev_var rfl) (eo_some (ev_op (ev_var rfl) ev_c rv_I0)) rfl hS (by omega)) (sz3 h99)) fun lp H2 np e2 hlp => kQ _ (spoil_mid hP h99 (Nat.le_succ j) (.inl rfl) (((fine_sign sgPlus (by decide)).app hpA.fine).le (by decide)) (fun _ => (ahead_bad (p := p) sgPlus (by omega)).1) (fun _ => (ahead_bad (p := p) sgPlus (by omega)).2)) lp H2 np e2 hlp
    have kQ : ∀ qs, Spoilt way j qs → RetL (qs.map V.str) H' Q := fun qs h => retL_mono (kQ qs h) e
    have hS := ex_l e hS
    have n12 : way ≠ 12 := fun h => of_decide_eq_false hb (congrArg V.int h)
    refine q_when (b := decide (V.int way = V.int 18)) (et_test (ev_op (ev_var rfl) ev_c (rv_eq rfl))) (fun hb H' e => ?_) (fun hb H' e => ?_)
    · have kQ : ∀ qs, Spoilt way j qs → RetL (qs.map V.str) H' Q := fun qs h => retL_mono (kQ qs h) e
      have hS := ex_l e hS
      have hway : way = 18 := V.int.inj (of_decide_eq_true hb)
      obtain ⟨p, hp, hpA⟩ := rowParts_at hl hw (i := j) (by omega)
      have hpl := hpA.fine.len
      refine s_retL (el_catS (xs := (rowParts long ws).take j ++ [p ++ "\t"]) (ys := (rowParts long ws).drop (j + 1)) (el_catS (xs := (rowParts long ws).take j) (ys := [p ++ "\t"]) (el_to (K := K) (k := j) (ev_var rfl) (eo_some (ev_var rfl)) hS (by omega)) (el_one (ev_op (ev_at (K := K) (i := j) (ev_var rfl) (ev_var rfl) hS hp) ev_c (rv_addS (by rw [len_str "\t", sgTab, List.length_cons, List.length_nil]; omega)))) (sz2 h99)) (el_from (K := K) (k := j + 1) (i := (j : Int) + 1) (ev_var rfl) (eo_some (ev_op (ev_var rfl) ev_c rv_I0)) rfl hS (by omega)) (sz3 h99)) fun lp H2 np e2 hlp => kQ _ (spoil_mid hP h99 (Nat.le_succ j) (.inl rfl) ((hpA.fine.app (fine_sign sgTab (by decide))).le (by decide)) (fun _ => (behind_bad (p := p) sgTab (by omega)).1) (fun _ => (behind_bad (p := p) sgTab (by omega)).2)) lp H2 np e2 hlp
    have kQ : ∀ qs, Spoilt way j qs → RetL (qs.map V.str) H' Q := fun qs h => retL_mono (kQ qs h) e
    have hS := ex_l e hS
    have n18 : way ≠ 18 := fun h => of_decide_eq_false hb (congrArg V.int h)
    refine q_when (b := decide (V.int way = V.int 19)) (et_test (ev_op (ev_var rfl) ev_c (rv_eq rfl))) (fun hb H' e => ?_) (fun hb H' e => ?_)
    · have kQ : ∀ qs, Spoilt way j qs → RetL (qs.map V.str) H' Q := fun qs h => retL_mono (kQ qs h) e
      have hS := ex_l e hS
      have hway : way = 19 := V.int.inj (of_decide_eq_true hb)
      obtain ⟨p, hp, hpA⟩ := rowParts_at hl hw (i := j) (by omega)
      have hpl := hpA.fine.len
      refine s_retL (el_catS (xs := (rowParts long ws).take j ++ [p ++ "\n"]) (ys := (rowParts long ws).drop (j + 1)) (el_catS (xs := (rowParts long ws).take j) (ys := [p ++ "\n"]) (el_to (K := K) (k := j) (ev_var rfl) (eo_some (ev_var rfl)) hS (by omega)) (el_one (ev_op (ev_at (K := K) (i := j) (ev_var rfl) (ev_var rfl) hS hp) ev_c (rv_addS (by rw [len_str "\n", sgNl, List.length_cons, List.length_nil]; omega)))) (sz2 h99)) (el_from (K := K) (k := j + 1) (i := (j : Int) + 1) (ev_var rfl) (eo_some (ev_op (ev_var rfl) ev_c rv_I0)) rfl hS (by omega)) (sz3 h99)) fun lp H2 np e2 hlp => kQ _ (spoil_mid hP h99 (Nat.le_succ j) (.inl rfl) ((hpA.fine.app (fine_sign sgNl (by decide))).le (by decide)) (fun _ => (behind_bad (p := p) sgNl (by omega)).1) (fun _ => (behind_bad (p := p) sgNl (by omega)).2)) lp H2 np e2 hlp
    have kQ : ∀ qs, Spoilt way j qs → RetL (qs.map V.str) H' Q := fun qs h => retL_mono (kQ qs h) e
    have hS := ex_l e hS
    have n19 : way ≠ 19 := fun h => of_decide_eq_false hb (congrArg V.int h)
    refine q_when (b := decide (V.int way = V.int 13)) (et_test (ev_op (ev_var rfl) ev_c (rv_eq rfl))) (fun hb H' e => ?_) (fun hb H' e => ?_)
    · have kQ : ∀ qs, Spoilt way j qs → RetL (qs.map V.str) H' Q := fun qs h => retL_mono (kQ qs h) e
      have hS := ex_l e hS
      have hway : way = 13 := V.int.inj (of_decide_eq_true hb)
      cases ws with
      | nil =>
        refine s_retL (el_if (xs := [headS long ++ "\t"].map V.str) (et_test (ev_op (ev_is (ev_len (K := K) (ev_var rfl) hS) (by rw [List.length_map, hlen])) ev_c rv_I0)) (fun h => absurd (of_decide_eq_true h) (by decide)) (fun _ => el_one (ev_op (ev_at (K := K) (i := 0) (ev_var rfl) ev_c hS h0) ev_c (rv_addS (by rw [len_str "\t", sgTab, List.length_cons, List.length_nil]; omega))))) fun lp H2 np e2 hlp => kQ _ (spoil_head (r := []) (by omega) ((hhf.app (fine_sign sgTab (by decide))).le (by decide)) (fun p hp => by cases hp) (by decide) ((behind_bad (p := headS long) sgTab (by omega)).1)) lp H2 np e2 hlp
      | cons w ws =>
        refine s_retL (el_if (xs := [Txt.join "\t" (rowParts long (w :: ws))].map V.str) (et_test (ev_op (ev_is (ev_len (K := K) (ev_var rfl) hS) (by rw [List.length_map, hlen])) ev_c rv_I0)) (fun _ => el_one (q := Txt.join "\t" (rowParts long (w :: ws))) (ev_join (K := K) ev_c (ev_var rfl) hS (join_room hP.len (by omega) (by decide)))) (fun h => absurd (of_decide_eq_false h) (fun g => g (by rw [List.length_cons]; omega)))) fun lp H2 np e2 hlp => kQ _ (spoil_head (r := []) (by omega) (join_fine sgTab (by decide) (fun p hp => by
          obtain ⟨i, hi⟩ := List.mem_iff_getElem?.mp hp
          have hil := (List.getElem?_eq_some_iff.mp hi).1
          obtain ⟨p', hp', hA⟩ := rowParts_at hl hw (i := i) (by omega)
          rw [hi] at hp'
          cases hp'
          exact hA.fine) h99) (fun p hp => by cases hp) (by decide) join_bad) lp H2 np e2 hlp
    have kQ : ∀ qs, Spoilt way j qs → RetL (qs.map V.str) H' Q := fun qs h => retL_mono (kQ qs h) e
    have hS := ex_l e hS
    have n13 : way ≠ 13 := fun h => of_decide_eq_false hb (congrArg V.int h)
    refine s_retL (el_catS (xs := (rowParts long ws).take ws.length) (ys := [pl ++ ","]) (el_init (K := K) (ev_var rfl) (eo_some (ev_un ev_c ru_neg)) hS hlen) (el_one (ev_op (ev_lastS (K := K) (ev_var rfl) (ev_un ev_c ru_neg) hS hlen hpl) ev_c (rv_addS (by rw [len_str ",", sgComma, List.length_cons, List.length_nil]; omega)))) (sz2 h99)) fun lp H2 np e2 hlp => kQ _ (spoil_end hP h99 hlen (by omega) ((hplA.fine.app (fine_sign sgComma (by decide))).le (by decide)) (behind_bad sgComma (by omega))) lp H2 np e2 hlp

abbrev s_number_of : Stmt := top 13
abbrev N_number_of : List Str := ["figures", "sign"]
theorem sc_number_of : FnScope N_number_of ["figures"] (defScope s_number_of) := ⟨rfl, rfl, rfl, by decide +kernel, rfl, by decide +kernel, by decide +kernel⟩
theorem bw_number_of : BindsWell "number_of" s_number_of ["figures"] := fun _ _ _ _ _ _ us hl => match us, hl with | [_], _ => rfl

def sp_number_of (K : Kf) : Sp := fun vs H Q E => ∃ a : Str, vs = [.str a] ∧ a.length ≤ 1000 ∧ (¬ Num a → ∀ H', Ex H H' → E (.ref (He.ga K (classAt 5))) none H') ∧ (∀ n, IsNum a n → RetV (.int (n : Int)) H Q)
theorem sv_number_of {K : Kf} {σ : L2.St} {H : Hp} {E : XK} {ta : TA} {a : Str} {n : Nat} (h : EvA ta σ H [.str a]) (hl : a.length ≤ 1000) (hn : IsNum a n) : Ev (tCall (sp_number_of K) [] E ta) σ H (.int (n : Int)) :=
  ev_callV h fun H1 e Q q E => ⟨a, rfl, hl, fun hb => absurd ⟨n, hn⟩ hb, fun m hm => by rw [hm.uniq hn]; exact q⟩
theorem rz_number_of {K : Kf} {σ : L2.St} {H : Hp} {E : XK} {ta : TA} {a : Str} (h : EvA ta σ H [.str a]) (hl : a.length ≤ 1000) (hn : ¬ Num a) (hE : ∀ H', Ex H H' → E (.ref (He.ga K (classAt 5))) none H') : Rz (tCall (sp_number_of K) [] E ta) σ H :=
  rz_call h fun H1 e Q => ⟨a, rfl, hl, fun _ H' e2 => hE H' (e.trans e2), fun m hm => absurd ⟨m, hm⟩ hn⟩
theorem ok_number_of (D : Def K mg "number_of" s_number_of) (T : Txt mg) {tFIGURES : Tok} (cFIGURES : mg "FIGURES" = some (.str "0123456789" tFIGURES)) (E_NoNote : Exc K mg "NoNote") : Own P w K mg base (L2.CX P w) 1 "number_of" ["figures"] (sp_number_of K) := by
  refine D.hot sc_number_of bw_number_of (fun vs H Q E h => ?_) (fun f cdv A outer s H vs Q E hr h => ?_)
  · obtain ⟨a, rfl, _⟩ := h
    rfl
  · obtain ⟨a, rfl, hl, hE, k2⟩ := h
    refine ⟨_, (pss_cons (ps_if (PW.pt (pw_or (pt_cmpR op_eq (pv 0) pe_str (nomark _)) (pw_or (pt_cmpR op_gt (pe_callB call_len_str (by rfl) T.len PySem.boot_len (pa_cons (pv 0) pa_nil)) pe_int (nomark _)) (pw_or1 (PW.pt (pw_and (pt_cmpR op_eq (pe_ix ix_str (pv 0) pe_int (fun _ _ => rfl)) pe_str (nomark _)) (pw_and1 (pt_cmpR op_gt (pe_callB call_len_str (by rfl) T.len PySem.boot_len (pa_cons (pv 0) pa_nil)) pe_int (nomark _)))))))))
        (pss_one (ps_raise rfl (takes_of rfl rfl rfl rfl) (pmk_own PySem.F.excBase_ValueError E_NoNote.x E_NoNote.g E_NoNote.k (raises_own E_NoNote.b E_NoNote.t) rfl)))
        pss_nil)
        (pss_cons (ps_for (passes_of rfl) rfl (pi_str (pv 0)) (pg_name (i := 1) sc_number_of.nd rfl (Or.inl rfl))
        (pss_one (ps_if (pt_cmpR op_notIn_sign (pv 1) (pe_glob (v := .str "0123456789") rfl cFIGURES ⟨_, rfl⟩) (by rfl))
          (pss_one (ps_raise rfl (takes_of rfl rfl rfl rfl) (pmk_own PySem.F.excBase_ValueError E_NoNote.x E_NoNote.g E_NoNote.k (raises_own E_NoNote.b E_NoNote.t) rfl)))
          pss_nil)))
        (pss_one (ps_ret (pe_callTy call_int_str (by rfl) T.int (by decide +kernel) (pa_cons (pv 0) pa_nil)))))), ?_⟩
    try dsimp only [cxOf]
    cases ea : tl a with
    | nil =>
      have e0 := str_nil ea
      subst e0
      refine q_when (b := true) (et_is (et_or (b := false) (et_test (ev_op (ev_var rfl) ev_c (rv_eq rfl))) fun h => ?_) ?_) (fun _ H1 e1 => ?_) (fun h => by cases h)
      · rw [decide_eq_true rfl] at h
        cases h
      · rw [decide_eq_true rfl]
        rfl
      · exact hE (fun ⟨n, hn⟩ => absurd (hn.2.symm.trans ea) (numL_ne n)) H1 e1
    | cons c r =>
      have h0 : decide (V.str a = V.str "") = false := decide_eq_false fun h => by
        rw [V.str.inj h] at ea
        cases ea
      have hat : atI a.cps.toList 0 = some c := by
        rw [show a.cps.toList = c :: r from ea]
        exact L2.atI_nat (show (c :: r)[0]? = some c from rfl)
      refine q_when (et_or (et_test (ev_op (ev_var rfl) ev_c (rv_eq rfl))) fun _ => et_or (et_test (ev_op (ev_lenS (ev_var rfl) (by omega)) ev_c rv_I0)) fun _ => et_and (et_test (ev_op (ev_op (ev_var rfl) ev_c (rv_ixS (by omega) hat)) ev_c (rv_eq rfl))) fun _ => et_test (ev_op (ev_lenS (ev_var rfl) (by omega)) ev_c rv_I0)) (fun hb H1 e1 => ?_) (fun hb H1 e1 => ?_)
      · rw [h0, sign_eq (d := 48) (by decide +kernel), Bool.false_or, Bool.or_eq_true, Bool.and_eq_true, decide_eq_true_eq, decide_eq_true_eq, decide_eq_true_eq, len_str a] at hb
        exact hE (fun ⟨n, hn⟩ => by
          rcases hn.two with ⟨g1, g2⟩ | ⟨g1, g2⟩
          · rw [g2] at hb
            simp only [List.length_cons, List.length_nil] at hb
            omega
          · have hn1 := hn.1
            rw [g2] at hb ea
            have ec := (List.cons.inj ea).1
            simp only [List.length_cons, List.length_nil] at hb
            omega) H1 e1
      rw [h0, sign_eq (d := 48) (by decide +kernel), Bool.false_or, Bool.or_eq_false_iff, Bool.and_eq_false_iff, decide_eq_false_iff_not, decide_eq_false_iff_not, decide_eq_false_iff_not, len_str a] at hb
      refine q_forS (a := a) (ev_var rfl) (fun i σ' H' => ∃ o, σ' = [some (.str a), o] ∧ Ex H H' ∧ ∀ d ∈ (tl a).take i, 48 ≤ d ∧ d ≤ 57) (fun H2 e2 => ⟨none, rfl, e1.trans e2, fun d hd => by cases hd⟩) ?_ ?_
      · rintro i d σ' H' hd ⟨o, rfl, eH, hq⟩
        refine s_when (et_test (ev_op (ev_var rfl) ev_c rv_notSign)) (fun hb2 H3 e3 => ?_) (fun hb2 H3 e3 => ?_)
        · rw [Bool.not_eq_true', decide_eq_false_iff_not, in_figures] at hb2
          exact hE (fun ⟨n, hn⟩ => hb2 (hn.digits d (List.mem_of_getElem? hd))) H3 (eH.trans e3)
        · rw [Bool.not_eq_false', decide_eq_true_eq, in_figures] at hb2
          refine ⟨_, rfl, eH.trans e3, fun x hx => ?_⟩
          rw [take_succ_of hd] at hx
          rcases List.mem_append.mp hx with hx | hx
          · exact hq x hx
          · rw [List.mem_singleton.mp hx]
            exact hb2
      · rintro σ' H' ⟨o, rfl, eH, hq⟩
        rw [List.take_length] at hq
        obtain ⟨n, hn⟩ := num_of ea (by omega) (fun h => by omega) hq
        exact s_ret (ev_intS (ev_var rfl) hn (by rw [len_str]; omega)) fun H3 e3 => k2 n hn H3 (eH.trans e3)

abbrev s_asked : Stmt := top 10
abbrev N_asked : List Str := ["long", "wishes", "wish"]
theorem sc_asked : FnScope N_asked ["long", "wishes"] (defScope s_asked) := ⟨rfl, rfl, rfl, by decide +kernel, rfl, by decide +kernel, by decide +kernel⟩
theorem bw_asked : BindsWell "asked" s_asked ["long", "wishes"] := fun _ _ _ _ _ _ us hl => match us, hl with | [_, _], _ => rfl

/-- what is wrong, by the number of its class: the quay, the row -/
def AskBad (z : Int) (ns : List Int) (i : Nat) : Prop := (i = 0 ∧ (z < 1 ∨ 40 < z)) ∨ (i = 1 ∧ 1 ≤ z ∧ z ≤ 40 ∧ (z < (ns.length : Int) ∨ ∃ w ∈ ns, w < 0 ∨ z ≤ w))
theorem AskBad.six {z : Int} {ns : List Int} {i : Nat} (h : AskBad z ns i) : i < 6 := by
  rcases h with ⟨rfl, _⟩ | ⟨rfl, _⟩ <;> decide
theorem nat_list {ns : List Int} (h : ∀ w ∈ ns, 0 ≤ w) : ∃ ws : List Nat, ns = ws.map Int.ofNat := by
  refine ⟨ns.map Int.toNat, ?_⟩
  rw [List.map_map]
  have e : ns.map (Int.ofNat ∘ Int.toNat) = ns.map id := List.map_congr_left fun w hw => Int.toNat_of_nonneg (h w hw)
  rw [e, List.map_id]
theorem ask_or (z : Int) (ns : List Int) : (∃ i, AskBad z ns i) ∨ ∃ (long : Nat) (ws : List Nat), z = (long : Int) ∧ ns = ws.map Int.ofNat ∧ Row long ws := by
  by_cases c1 : z < 1 ∨ 40 < z
  · exact .inl ⟨0, .inl ⟨rfl, c1⟩⟩
  · rcases Classical.em (z < (ns.length : Int) ∨ ∃ w ∈ ns, w < 0 ∨ z ≤ w) with c2 | c2
    · exact .inl ⟨1, .inr ⟨rfl, by omega, by omega, c2⟩⟩
    · right
      have h3 : ∀ w ∈ ns, 0 ≤ w ∧ w < z := fun w hw => by
        have n1 : ¬ w < 0 := fun y => c2 (.inr ⟨w, hw, .inl y⟩)
        have n2 : ¬ z ≤ w := fun y => c2 (.inr ⟨w, hw, .inr y⟩)
        omega
      obtain ⟨ws, rfl⟩ := nat_list fun w hw => (h3 w hw).1
      have n3 : ¬ z < ((ws.map Int.ofNat).length : Int) := fun y => c2 (.inl y)
      rw [List.length_map] at n3
      refine ⟨z.toNat, ws, by omega, rfl, by omega, by omega, by omega, fun w hw => ?_⟩
      have := (h3 (w : Int) (List.mem_map.mpr ⟨w, hw, rfl⟩)).2
      omega
theorem ask_good {long : Nat} {ws : List Nat} (h : Row long ws) (i : Nat) : ¬ AskBad (long : Int) (ws.map Int.ofNat) i := by
  obtain ⟨h1, h2, h3, h4⟩ := h
  rintro (⟨_, g⟩ | ⟨_, _, _, g | ⟨w, hw, g⟩⟩)
  · omega
  · rw [List.length_map] at g
    omega
  · obtain ⟨x, hx, rfl⟩ := List.mem_map.mp hw
    have := h4 x hx
    have e : Int.ofNat x = (x : Int) := rfl
    omega
theorem map_nat {ws us : List Nat} (h : ws.map Int.ofNat = us.map Int.ofNat) : ws = us := (List.map_inj_right (fun x y h => Int.ofNat.inj h)).mp h
def sp_asked (K : Kf) : Sp := fun vs H Q E => ∃ (a : Addr) (z : Int) (ns : List Int), vs = [.int z, .ref a] ∧ SqL K H a (ns.map V.int) ∧ (∀ i, AskBad z ns i → ∀ H', Ex H H' → E (.ref (He.ga K (classAt i))) none H') ∧ (∀ long ws, z = ((long : Nat) : Int) → ns = ws.map Int.ofNat → Row long ws → RetV .non H Q)
theorem sv_asked {K : Kf} {σ : L2.St} {H : Hp} {E : XK} {ta : TA} {a : Addr} {long : Nat} {ws : List Nat} (h : EvA ta σ H [.int (long : Int), .ref a]) (hS : SqL K H a (vn ws)) (hR : Row long ws) : Ev (tCall (sp_asked K) [] E ta) σ H .non :=
  ev_callV h fun H1 e Q q E => ⟨a, long, ws.map Int.ofNat, rfl, by rw [← vn_ints]; exact ex_l e hS, fun i hb => absurd hb (ask_good hR i), fun _ _ _ _ _ => q⟩
theorem rz_asked {K : Kf} {σ : L2.St} {H : Hp} {E : XK} {ta : TA} {a : Addr} {z : Int} {ns : List Int} {i : Nat} (h : EvA ta σ H [.int z, .ref a]) (hS : SqL K H a (ns.map V.int)) (hb : AskBad z ns i) (hE : ∀ i, AskBad z ns i → ∀ H', Ex H H' → E (.ref (He.ga K (classAt i))) none H') : Rz (tCall (sp_asked K) [] E ta) σ H :=
  rz_call h fun H1 e Q => ⟨a, z, ns, rfl, ex_l e hS, fun i hb H' e2 => hE i hb H' (e.trans e2), fun long ws e1 e2 hR => absurd hb (by rw [e1, e2]; exact ask_good hR i)⟩
theorem ok_asked (D : Def K mg "asked" s_asked) (T : Txt mg) {tLONGEST : Tok} (cLONGEST : mg "LONGEST" = some (.int 40 tLONGEST)) (E_NoQuay : Exc K mg "NoQuay") (E_NoRow : Exc K mg "NoRow") : Own P w K mg base (L2.CX P w) 1 "asked" ["long", "wishes"] (sp_asked K) := by
  refine D.hot sc_asked bw_asked (fun vs H Q E h => ?_) (fun f cdv A outer s H vs Q E hr h => ?_)
  · obtain ⟨a, z, ns, rfl, _⟩ := h
    rfl
  · obtain ⟨a, z, ns, rfl, hS, hE, kQ⟩ := h
    refine ⟨_, (pss_cons (ps_if (PW.pt (pw_or (pt_cmpR op_lt (pv 0) pe_int (nomark _)) (pw_or1 (pt_cmpR op_gt (pv 0) (pe_glob (v := .int 40) rfl cLONGEST ⟨_, rfl⟩) (nomark _)))))
        (pss_one (ps_raise rfl (takes_of rfl rfl rfl rfl) (pmk_own PySem.F.excBase_ValueError E_NoQuay.x E_NoQuay.g E_NoQuay.k (raises_own E_NoQuay.b E_NoQuay.t) rfl)))
        pss_nil)
        (pss_cons (ps_if (pt_cmpR op_gt (pe_callB cr_len (by rfl) T.len PySem.boot_len (pa_cons (pv 1) pa_nil)) (pv 0) (nomark _))
        (pss_one (ps_raise rfl (takes_of rfl rfl rfl rfl) (pmk_own PySem.F.excBase_ValueError E_NoRow.x E_NoRow.g E_NoRow.k (raises_own E_NoRow.b E_NoRow.t) rfl)))
        pss_nil)
        (pss_one (ps_for (passes_of rfl) rfl (pi_list (pv 1)) (pg_name (i := 2) sc_asked.nd rfl (Or.inl rfl))
        (pss_one (ps_if (PW.pt (pw_or (pt_cmpR op_lt (pv 2) pe_int (nomark _)) (pw_or1 (pt_cmpR op_ge (pv 2) (pv 0) (nomark _)))))
          (pss_one (ps_raise rfl (takes_of rfl rfl rfl rfl) (pmk_own PySem.F.excBase_ValueError E_NoRow.x E_NoRow.g E_NoRow.k (raises_own E_NoRow.b E_NoRow.t) rfl)))
          pss_nil)))))), ?_⟩
    try dsimp only [cxOf]
    refine q_when (by walk_at "et") (fun hb H1 e1 => ?_) (fun hb H1 e1 => ?_)
    · rw [Bool.or_eq_true, decide_eq_true_eq, decide_eq_true_eq] at hb
      exact hE 0 (.inl ⟨rfl, hb⟩) H1 e1
    rw [Bool.or_eq_false_iff, decide_eq_false_iff_not, decide_eq_false_iff_not] at hb
    refine q_when (et_test (ev_op (ev_is (ev_len (K := K) (ev_var rfl) (ex_l e1 hS)) (by rw [List.length_map])) (ev_var rfl) rv_I0)) (fun hb2 H2 e2 => ?_) (fun hb2 H2 e2 => ?_)
    · exact hE 1 (.inr ⟨rfl, by omega, by omega, .inl (of_decide_eq_true hb2)⟩) H2 (e1.trans e2)
    have hb3 := of_decide_eq_false hb2
    have eH2 : Ex H H2 := e1.trans e2
    refine s_forLn (K := K) (a := a) (xs := ns.map V.int) (by walk_at "ev") (ex_l eH2 hS) (fun i σ' H' => ∃ o, σ' = [some (.int z), some (.ref a), o] ∧ Ex H H' ∧ ∀ w ∈ ns.take i, 0 ≤ w ∧ w < z) (fun H3 e3 => ⟨none, rfl, eH2.trans e3, fun w hw => by cases hw⟩) (fun i σ' H' _ p => ?_) ?_ ?_
    · obtain ⟨_, _, eH, _⟩ := p
      exact ex_l eH hS
    · rintro i x σ' H' hx ⟨o, rfl, eH, hq⟩
      obtain ⟨w, rfl, hw, hi, hm, _⟩ := map_at hx
      refine s_when (by walk_at "et") (fun hb2 H3 e3 => ?_) (fun hb2 H3 e3 => ?_)
      · rw [Bool.or_eq_true, decide_eq_true_eq, decide_eq_true_eq] at hb2
        exact hE 1 (.inr ⟨rfl, by omega, by omega, .inr ⟨w, hm, hb2⟩⟩) H3 (eH.trans e3)
      · rw [Bool.or_eq_false_iff, decide_eq_false_iff_not, decide_eq_false_iff_not] at hb2
        refine ⟨_, rfl, eH.trans e3, fun y hy => ?_⟩
        rw [take_succ_of hw] at hy
        rcases List.mem_append.mp hy with hy | hy
        · exact hq y hy
        · rw [List.mem_singleton.mp hy]
          omega
    · rintro σ' H' ⟨o, rfl, eH, hq⟩
      rw [List.length_map, List.take_length] at hq
      obtain ⟨ws, rfl⟩ := nat_list fun w hw => (hq w hw).1
      rw [List.length_map] at hb3
      exact kQ z.toNat ws (by omega) rfl ⟨by omega, by omega, by omega, fun w hw => by
        have := (hq (w : Int) (List.mem_map.mpr ⟨w, hw, rfl⟩)).2
        omega⟩ H' eH

abbrev s_read : Stmt := top 14
abbrev N_read : List Str := ["text", "parts", "long", "wishes", "part"]
theorem sc_read : FnScope N_read ["text"] (defScope s_read) := ⟨rfl, rfl, rfl, by decide +kernel, rfl, by decide +kernel, by decide +kernel⟩
theorem bw_read : BindsWell "read" s_read ["text"] := fun _ _ _ _ _ _ us hl => match us, hl with | [_], _ => rfl

theorem str_ne_sign {a s : Str} : (!decide (V.str a = V.str s)) = !decide (tl a = tl s) := by
  congr 1
  exact decide_eq_decide.mpr ⟨fun h => congrArg tl (V.str.inj h), fun h => by rw [ext_tl h]⟩
def RetRow (n : Nat) (ws : List Nat) (H : Hp) (Q : VK) : Prop := ∀ p wp H2, Ex H H2 → H wp = none → H2 wp = some (.lst (vn ws)) → H2 p = some (.tup [.int (n : Int), .ref wp]) → Q (.ref p) H2
theorem rest_cut (p0 : Str) (rest : List Str) : cutV ((p0 :: rest).map V.str) (some 1) none = rest.map V.str := by
  unfold cutV
  rw [show ((1 : Int)) = ((1 : Nat) : Int) from rfl, HT.sIx_nat, HT.sIx_none, List.map_cons, List.length_cons, Nat.min_eq_left (by omega)]
  show ((rest.map V.str).take _) = _
  exact List.take_of_length_le (by omega)
def sp_read (K : Kf) : Sp := fun vs H Q E => ∃ ps : List Str, vs = [.str (joined ps)] ∧ Parts ps ∧ (Bad ps → ∀ H', Ex H H' → E (.ref (He.ga K (classAt 5))) none H') ∧ (∀ n ws, GoodP ps n ws → (∀ i, AskBad (n : Int) (ws.map Int.ofNat) i → ∀ H', Ex H H' → E (.ref (He.ga K (classAt i))) none H') ∧ (Row n ws → RetRow n ws H Q))
theorem ok_read (D : Def K mg "read" s_read) (T : Txt mg) (E_NoNote : Exc K mg "NoNote") (O_number_of : Own P w K mg base (L2.CX P w) 1 "number_of" ["figures"] (sp_number_of K)) (O_asked : Own P w K mg base (L2.CX P w) 1 "asked" ["long", "wishes"] (sp_asked K)) : Own P w K mg base (L2.CX P w) 2 "read" ["text"] (sp_read K) := by
  refine D.hot sc_read bw_read (fun vs H Q E h => ?_) (fun f cdv A outer s H vs Q E hr h => ?_)
  · obtain ⟨ps, rfl, _⟩ := h
    rfl
  · obtain ⟨ps, rfl, hP, hE, hG⟩ := h
    have hr_number_of : Room 1 _ := hr.mono (by decide)
    have hr_asked : Room 1 _ := hr.mono (by decide)
    refine ⟨_, (pss_cons (ps_set (i := 1) sc_read.nd rfl (Or.inl rfl) (pe_bm PySem.F.plainAttrs_str PySem.F.slot_str_split PySem.F.type_str_split mt_split (pv 0) (pa_cons pe_str pa_nil)))
        (pss_cons (ps_if (pt_cmpR op_ne (pe_slice sl_str (pe_ix ix_list (pv 1) pe_int (fun _ _ => rfl)) (po_some (pe_un un_neg pe_int)) po_none) pe_str (nomark _))
        (pss_one (ps_raise rfl (takes_of rfl rfl rfl rfl) (pmk_own PySem.F.excBase_ValueError E_NoNote.x E_NoNote.g E_NoNote.k (raises_own E_NoNote.b E_NoNote.t) rfl)))
        pss_nil)
        (pss_cons (ps_set (i := 2) sc_read.nd rfl (Or.inl rfl) (pe_own (E := E) O_number_of hr_number_of (passes_call (takes_of rfl rfl rfl rfl) (fun _ _ _ _ h => h)) (pa_cons (pe_slice sl_str (pe_ix ix_list (pv 1) pe_int (fun _ _ => rfl)) po_none (po_some (pe_un un_neg pe_int))) pa_nil)))
        (pss_cons (ps_setLcH (E := E) (i := 3) (own := [("part", 4)]) (g := gName 4) (takes_of rfl rfl rfl rfl) rfl rfl rfl sc_read.nd rfl rfl (sw_true rfl rfl rfl (by decide +kernel)) (pi_list (pe_slice sl_list (pv 1) (po_some pe_int) po_none)) (blkOk_by (N := N_read) (sc := defScope s_read) (by decide +kernel)) (fun _ _ _ _ _ => pg_name (i := 4) sc_read.nd rfl (.inl rfl)) (fun _ _ _ _ _ => pts_nil) (fun _ _ _ _ _ hp => (pe_own (E := E) O_number_of hr_number_of hp (pa_cons (pv 4) pa_nil))))
        (pss_cons (ps_expr (pe_own (E := E) O_asked hr_asked (passes_call (takes_of rfl rfl rfl rfl) (fun _ _ _ _ h => h)) (pa_cons (pv 2) (pa_cons (pv 3) pa_nil))))
        (pss_one (ps_ret (pe_tup (pa_cons (pv 2) (pa_cons (pv 3) pa_nil)))))))))), ?_⟩
    try dsimp only [cxOf]
    obtain ⟨p0, rest, rfl⟩ : ∃ p0 rest, ps = p0 :: rest := by
      cases ps with
      | nil => exact absurd rfl hP.ne
      | cons p r => exact ⟨p, r, rfl⟩
    have hshort := hP.short
    refine q_asgL (xs := (p0 :: rest).map V.str) (el_is (el_split (a := joined (p0 :: rest)) (ev_var rfl) ev_c (by decide +kernel) (by omega)) (by rw [hP.split])) fun pp H1 npp e1 hpp => ?_
    have hl0 := hP.len p0 List.mem_cons_self
    have hS1 : SqL K H1 pp ((p0 :: rest).map V.str) := sq_of hpp
    have hat : atI ((p0 :: rest).map V.str) 0 = some (.str p0) := L2.atI_nat (show ((p0 :: rest).map V.str)[0]? = some (V.str p0) from rfl)
    refine q_when (et_test (ev_op (ev_slS (a := p0) (ev_ixL (ev_var rfl) ev_c hS1 hat) (eo_some (ev_un ev_c ru_neg)) eo_none (by omega)) ev_c (rv_ne rfl))) (fun hb H2 e2 => ?_) (fun hb H2 e2 => ?_)
    · rw [str_ne_sign, Bool.not_eq_true', decide_eq_false_iff_not] at hb
      exact hE (headBad fun n hn => hb ((tl_snoc_last hn.2).trans colon_sign.symm)) H2 (e1.trans e2)
    rw [str_ne_sign, Bool.not_eq_false', decide_eq_true_eq] at hb
    have hlast := hb.trans colon_sign
    have hS2 := ex_l e2 hS1
    have hil := cutS_length p0 none (some (-1))
    have eH2 : Ex H H2 := e1.trans e2
    by_cases c1 : Num (cutS p0 none (some (-1)))
    case neg =>
      exact q_asgR0 (rz_number_of (K := K) (ea_cons (ev_slS (a := p0) (ev_ixL (ev_var rfl) ev_c hS2 hat) eo_none (eo_some (ev_un ev_c ru_neg)) (by omega)) ea_nil) (by omega) c1 fun H' e' => hE (headBad fun n hn => c1 ⟨n, hn.init⟩) H' (eH2.trans e'))
    obtain ⟨n, hn⟩ := c1
    refine q_asg (sv_number_of (K := K) (n := n) (ea_cons (ev_slS (a := p0) (ev_ixL (ev_var rfl) ev_c hS2 hat) eo_none (eo_some (ev_un ev_c ru_neg)) (by omega)) ea_nil) (by omega) hn) fun H3 e3 => ?_
    have hS3 := ex_l e3 hS2
    have eH3 : Ex H H3 := eH2.trans e3
    have hfew := hP.few
    rw [List.length_cons] at hfew
    by_cases c2 : ∀ p ∈ rest, Num p
    case neg =>
      obtain ⟨k, p, hk, hbad, hgood⟩ := first_bad c2
      have hkl := (List.getElem?_eq_some_iff.mp hk).1
      refine q_asgR0 (rz_lcNL (K := K) (xs := rest.map V.str) (fun i => .int (((valOf (rest.getD i "")) : Nat) : Int)) k (by rw [List.length_map]; exact hkl) (el_is (el_sl (ev_var rfl) (eo_some ev_c) eo_none hS3) (rest_cut p0 rest)) (by rw [List.length_map]; omega) (fun _ => rfl) (fun i x H4 e4 hx hi => ?_) (fun x H4 e4 hx => ?_))
      · rw [List.getElem?_map] at hx
        obtain ⟨q, hq, rfl⟩ := Option.map_eq_some_iff.mp hx
        refine sv_number_of (K := K) (a := q) (ea_cons (ev_var rfl) ea_nil) (hP.len q (List.mem_cons_of_mem _ (List.mem_of_getElem? hq))) ?_
        rw [List.getD_eq_getElem?_getD, hq]
        exact valOf_is (hgood i q hi hq)
      · rw [List.getElem?_map, hk] at hx
        cases hx
        exact rz_number_of (K := K) (a := p) (ea_cons (ev_var rfl) ea_nil) (hP.len p (List.mem_cons_of_mem _ (List.mem_of_getElem? hk))) hbad fun H' e' => hE (BadRest.bad ⟨p, List.mem_of_getElem? hk, hbad⟩) H' ((eH3.trans e4).trans e')
    obtain ⟨ws, hN⟩ := nums_of c2
    have hGood : GoodP (p0 :: rest) n ws := ⟨p0, rest, rfl, head_of hlast hn, hN⟩
    obtain ⟨hA, kQ⟩ := hG n ws hGood
    have hrl := hN.len
    refine q_asgL (xs := vn ws) (el_is (el_lcNL (K := K) (xs := rest.map V.str) (fun _ => true) (fun i => .int ((ws.getD i 0 : Nat) : Int)) (el_is (el_sl (ev_var rfl) (eo_some ev_c) eo_none hS3) (rest_cut p0 rest)) (by rw [List.length_map]; omega) (fun _ => rfl) (fun _ _ _ _ _ => et_yes) (fun i x H4 e4 hx _ => ?_)) ?_) fun wp H4 nwp e4 hwp => ?_
    · rw [List.getElem?_map] at hx
      obtain ⟨p, hp, rfl⟩ := Option.map_eq_some_iff.mp hx
      have hil2 := (List.getElem?_eq_some_iff.mp hp).1
      have hw := List.getElem?_eq_getElem (l := ws) (i := i) (by omega)
      have hl2 := hP.len p (List.mem_cons_of_mem _ (List.mem_of_getElem? hp))
      refine sv_number_of (K := K) (a := p) (ea_cons (ev_var rfl) ea_nil) hl2 ?_
      rw [List.getD_eq_getElem?_getD, hw]
      exact hN.at hp hw
    · rw [given_all (fun _ => rfl), List.length_map, hrl]
      unfold vn
      refine List.ext_getElem? fun i => ?_
      rw [List.getElem?_map, List.getElem?_map]
      by_cases hi : i < ws.length
      · rw [List.getElem?_range hi, List.getElem?_eq_getElem hi]
        show some (V.int ((ws.getD i 0 : Nat) : Int)) = some (V.int ((ws[i] : Nat) : Int))
        rw [List.getD_eq_getElem?_getD, List.getElem?_eq_getElem hi]
        rfl
      · rw [List.getElem?_eq_none (by rw [List.length_range]; omega), List.getElem?_eq_none (by omega)]
        rfl
    have eH4 : Ex H H4 := eH3.trans e4
    rcases ask_or (n : Int) (ws.map Int.ofNat) with ⟨ib, hb⟩ | ⟨long, us, en, eu, hR⟩
    · exact q_dropR (rz_asked (K := K) (z := (n : Int)) (ns := ws.map Int.ofNat) (by walk_at "ea") (by rw [← vn_ints]; exact sq_of hwp) hb fun i hi H' e' => hA i hi H' (eH4.trans e'))
    have hn2 : n = long := by omega
    have hu2 := map_nat eu
    subst hn2 hu2
    refine q_drop (sv_asked (by walk_at "ea") (sq_of hwp) hR) fun H5 e5 => ?_
    exact s_retU (eu_tup (ea_cons (ev_var rfl) (ea_cons (ev_var rfl) ea_nil)) (Nat.le_of_ble_eq_true rfl)) fun p H6 np e6 hp => kQ hR p wp H6 ((eH4.trans e5).trans e6) (fresh_back eH3 nwp) (e6 _ _ (e5 _ _ hwp)) hp

abbrev s_l_word_of : Stmt := top 18
abbrev N_l_word_of : List Str := ["e", "kinds"]
theorem sc_l_word_of : FnScope N_l_word_of ["e"] (defScope s_l_word_of) := ⟨rfl, rfl, rfl, by decide +kernel, rfl, by decide +kernel, by decide +kernel⟩
theorem bw_l_word_of : BindsWell "_law_word_of" s_l_word_of ["e"] := fun _ _ _ _ _ _ us hl => match us, hl with | [_], _ => rfl

theorem ok_l_word_of (D : Def K mg "_law_word_of" s_l_word_of) (T : Txt mg) (gNoQuay : mg "NoQuay" = some (.ref (He.ga K "NoQuay"))) (gNoTree : mg "NoTree" = some (.ref (He.ga K "NoTree"))) (gNoOutcome : mg "NoOutcome" = some (.ref (He.ga K "NoOutcome"))) (gNoRow : mg "NoRow" = some (.ref (He.ga K "NoRow"))) (gNoRank : mg "NoRank" = some (.ref (He.ga K "NoRank"))) (gNoNote : mg "NoNote" = some (.ref (He.ga K "NoNote"))) : OwnP P w K mg base 1 "_law_word_of" ["e"] (sp_l_word_of K) := by
  refine D.pinned sc_l_word_of bw_l_word_of (fun p vs H Q E h => ?_) (fun p f cdv A outer s H vs Q E hr h => ?_)
  · obtain ⟨_, _, rfl, _⟩ := h
    rfl
  · obtain ⟨D0, i, rfl, hz, hf, hi, hw, kQ⟩ := h
    refine ⟨_, (pss_cons (ps_set (i := 1) sc_l_word_of.nd rfl (Or.inl rfl) (pe_lst (pa_cons (pe_callB (call_isP (p := p) List.mem_cons_self hw.c hz hf) (by rfl) T.isinstance (by decide +kernel) (pa_cons (pv 0) (pa_cons (pe_glob (v := .ref _) rfl gNoQuay rfl) pa_nil))) (pa_cons (pe_callB (call_isP (p := p) List.mem_cons_self hw.c hz hf) (by rfl) T.isinstance (by decide +kernel) (pa_cons (pv 0) (pa_cons (pe_glob (v := .ref _) rfl gNoRow rfl) pa_nil))) (pa_cons (pe_callB (call_isP (p := p) List.mem_cons_self hw.c hz hf) (by rfl) T.isinstance (by decide +kernel) (pa_cons (pv 0) (pa_cons (pe_glob (v := .ref _) rfl gNoOutcome rfl) pa_nil))) (pa_cons (pe_callB (call_isP (p := p) List.mem_cons_self hw.c hz hf) (by rfl) T.isinstance (by decide +kernel) (pa_cons (pv 0) (pa_cons (pe_glob (v := .ref _) rfl gNoTree rfl) pa_nil))) pa_nil))))))
        (pss_cons (ps_set (i := 1) sc_l_word_of.nd rfl (Or.inl rfl) (pe_op op_cat (pv 1) (pe_lst (pa_cons (pe_callB (call_isP (p := p) List.mem_cons_self hw.c hz hf) (by rfl) T.isinstance (by decide +kernel) (pa_cons (pv 0) (pa_cons (pe_glob (v := .ref _) rfl gNoRank rfl) pa_nil))) (pa_cons (pe_callB (call_isP (p := p) List.mem_cons_self hw.c hz hf) (by rfl) T.isinstance (by decide +kernel) (pa_cons (pv 0) (pa_cons (pe_glob (v := .ref _) rfl gNoNote rfl) pa_nil))) pa_nil)))))
        (pss_cons (ps_if (PW.pt (pw_or (pt_cmpR op_ne (pe_bm PySem.F.plainAttrs_list PySem.F.slot_list_count PySem.F.type_list_count mt_cntB (pv 1) (pa_cons pe_bl pa_nil)) pe_int (nomark _)) (pw_or1 (pt_not (pt_val (pe_callB (call_isP (p := p) List.mem_cons_self hw.c hz hf) (by rfl) T.isinstance (by decide +kernel) (pa_cons (pv 0) (pa_cons (pe_bltn (v := .ty "ValueError") (by rfl) T.ValueError (by decide +kernel) rfl) pa_nil))))))))
        (pss_one (ps_ret pe_str))
        pss_nil)
        (pss_one (ps_ret (pe_ix ix_list (pe_lst (pa_cons pe_str (pa_cons pe_str (pa_cons pe_str (pa_cons pe_str (pa_cons pe_str (pa_cons pe_str pa_nil))))))) (pe_bm PySem.F.plainAttrs_list PySem.F.slot_list_index PySem.F.type_list_index mt_index (pv 1) (pa_cons pe_bl pa_nil)) (fun _ _ => rfl))))))), ?_⟩
    try dsimp only [cxOf]
    refine q_asgL (xs := [.bl (decide (0 = i)), .bl (decide (1 = i)), .bl (decide (2 = i)), .bl (decide (3 = i))]) (el_lst (ea_cons (ev_isE (ev_var rfl) ev_c (hw.kit 0 (by decide))) (ea_cons (ev_isE (ev_var rfl) ev_c (hw.kit 1 (by decide))) (ea_cons (ev_isE (ev_var rfl) ev_c (hw.kit 2 (by decide))) (ea_cons (ev_isE (ev_var rfl) ev_c (hw.kit 3 (by decide))) ea_nil)))) (Nat.le_of_ble_eq_true rfl)) fun kp H1 nkp e1 hkp => ?_
    refine q_asgL (xs := (marks i).map V.bl) (el_is (el_cat (ev_var rfl) hkp (el_lst (ea_cons (ev_isE (ev_var rfl) ev_c (hw.kit 4 (by decide))) (ea_cons (ev_isE (ev_var rfl) ev_c (hw.kit 5 (by decide))) ea_nil)) (Nat.le_of_ble_eq_true rfl)) (Nat.le_of_ble_eq_true rfl)) rfl) fun lp H2 nlp e2 hlp => ?_
    have hc : (marks i).count true = 1 := by
      match i, hi with
      | 0, _ => rfl
      | 1, _ => rfl
      | 2, _ => rfl
      | 3, _ => rfl
      | 4, _ => rfl
      | 5, _ => rfl
    refine q_when (b := false) (et_is (et_or (et_test (ev_op (ev_cntB (K := K) (ev_var rfl) ev_c hlp) ev_c (rv_ne rfl))) fun _ => et_not (et_B (ev_isEV (ev_var rfl) hw.ve))) ?_) (fun h => by cases h) fun _ H3 e3 => ?_
    · rw [hc, decide_eq_true (show V.int ((1 : Nat) : Int) = V.int 1 from rfl)]
      rfl
    refine s_ret (v := .str (wordAt i)) (ev_ixNL (i := (i : Int)) (xs := [.str "quay", .str "row", .str "outcome", .str "tree", .str "rank", .str "note"]) (el_lst (ea_cons ev_c (ea_cons ev_c (ea_cons ev_c (ea_cons ev_c (ea_cons ev_c (ea_cons ev_c ea_nil)))))) (Nat.le_of_ble_eq_true rfl)) (fun H4 e4 => ev_idxB (K := K) hi (ev_var rfl) ev_c (e4 _ _ (e3 _ _ hlp))) (atI_nat ?_)) fun H4 e4 => kQ H4 (((e1.trans e2).trans e3).trans e4)
    match i, hi with
    | 0, _ => rfl
    | 1, _ => rfl
    | 2, _ => rfl
    | 3, _ => rfl
    | 4, _ => rfl
    | 5, _ => rfl

abbrev s_l_tried : Stmt := top 19
abbrev N_l_tried : List Str := ["text", "e"]
theorem sc_l_tried : FnScope N_l_tried ["text"] (defScope s_l_tried) := ⟨rfl, rfl, rfl, by decide +kernel, rfl, by decide +kernel, by decide +kernel⟩
theorem bw_l_tried : BindsWell "_law_tried" s_l_tried ["text"] := fun _ _ _ _ _ _ us hl => match us, hl with | [_], _ => rfl

theorem GoodP.uniq {ps : List Str} {m n : Nat} {us ws : List Nat} (h : GoodP ps m us) (g : GoodP ps n ws) : m = n ∧ us = ws := by
  obtain ⟨p, r, rfl, h1, h2⟩ := h
  obtain ⟨p', r', e, g1, g2⟩ := g
  obtain ⟨rfl, rfl⟩ := List.cons.inj e
  exact ⟨numL_inj (List.append_inj' (h1.2.symm.trans g1.2) rfl).1, h2.uniq g2⟩
def DueN (qs : List Str) (w : Str) : Prop := (Bad qs → w = "note") ∧ ∀ n ws, GoodP qs n ws → (∀ i, AskBad (n : Int) (ws.map Int.ofNat) i → w = wordAt i) ∧ (Row n ws → w = "done")
theorem due_bad {qs : List Str} (h : Bad qs) : DueN qs "note" := ⟨fun _ => rfl, fun n ws g => absurd g (h n ws)⟩
theorem ask_one {z : Int} {ns : List Int} {i j : Nat} (h : AskBad z ns i) (g : AskBad z ns j) : i = j := by
  rcases h with ⟨rfl, h⟩ | ⟨rfl, h1, h2, _⟩ <;> rcases g with ⟨rfl, g⟩ | ⟨rfl, g1, g2, _⟩ <;> omega
theorem due_ask {qs : List Str} {n i : Nat} {ws : List Nat} (h : GoodP qs n ws) (ha : AskBad (n : Int) (ws.map Int.ofNat) i) : DueN qs (wordAt i) := by
  refine ⟨fun hb => absurd h (hb n ws), fun m us g => ?_⟩
  obtain ⟨rfl, rfl⟩ := h.uniq g
  exact ⟨fun k hk => by rw [ask_one ha hk], fun hR => absurd ha (ask_good hR i)⟩
theorem due_done {qs : List Str} {n : Nat} {ws : List Nat} (h : GoodP qs n ws) (hR : Row n ws) : DueN qs "done" := by
  refine ⟨fun hb => absurd h (hb n ws), fun m us g => ?_⟩
  obtain ⟨rfl, rfl⟩ := h.uniq g
  exact ⟨fun k hk => absurd hk (ask_good hR k), fun _ => rfl⟩
def sp_l_tried (K : Kf) : Sp := fun vs H Q _ => ∃ (ps : List Str) (w : Str), vs = [.str (joined ps)] ∧ Parts ps ∧ DueN ps w ∧ RetV (.str w) H Q
theorem sv_tried {K : Kf} {σ : L2.St} {H : Hp} {E : XK} {ta : TA} {ps : List Str} {w : Str} (h : EvA ta σ H [.str (joined ps)]) (hP : Parts ps) (hD : DueN ps w) : Ev (tCall (sp_l_tried K) [] E ta) σ H (.str w) :=
  ev_callV h fun H1 e Q q E => ⟨ps, w, rfl, hP, hD, q⟩
theorem ok_l_tried (D : Def K mg "_law_tried" s_l_tried) (T : Txt mg) (gMoorError : mg "MoorError" = some (.ref (He.ga K "MoorError"))) (words : Words K) (O_read : Own P w K mg base (L2.CX P w) 2 "read" ["text"] (sp_read K)) (O_l_word_of : OwnP P w K mg base 1 "_law_word_of" ["e"] (sp_l_word_of K)) : Own P w K mg base CX0 3 "_law_tried" ["text"] (sp_l_tried K) := by
  refine D.calm sc_l_tried bw_l_tried (fun vs H Q E h => ?_) (fun f cdv A outer s H vs Q E hr h => ?_)
  · obtain ⟨ps, w, rfl, _⟩ := h
    rfl
  · obtain ⟨ps, w, rfl, hP, hD, kQ⟩ := h
    have hr_read : Room 2 _ := hr.mono (by decide)
    have hr_l_word_of : Room 1 _ := hr.mono (by decide)
    refine ⟨_, (pss_cons (ps_try_as (i := 1) rfl rfl sc_l_tried.nd rfl rfl ⟨rfl, by decide, Or.inl gMoorError⟩ takes0 (fun W pn xe tk xp => (pss_one (ps_expr (pe_ownS O_read hr_read (fun σ => passAt tk σ) (pa_cons (pv 0) pa_nil))))) (fun a oe cls d pn hz hf => (pss_one (ps_ret (pe_word O_l_word_of hr_l_word_of hz hf (pv 1))))))
        (pss_one (ps_ret pe_str))), ?_⟩
    try dsimp only [cxOf]
    have kb : ∀ (D : Ends) (_ : D.rt = Q) (Wout : WX) (H1 : Hp), Ex H H1 → ∀ i, i < 6 → w = wordAt i → ∀ H', Ex H1 H' → wAs K (.ref (He.ga K "MoorError")) 1 (fun a cls d => tRet (tWord K a cls d (tVar 1))) Wout D (.ref (He.ga K (classAt i))) none ([some (.str (joined ps)), none] : L2.St) H' := fun D hD Wout H1 e1 i hi k H' e2 =>
      word_wish (words.w i hi) hi (by show 1 < 2; decide) fun H3 e3 => by
        rw [hD, ← k]
        exact kQ H3 ((e1.trans e2).trans e3)
    exact s_dropS (by walk_at "ea") fun H2 e2 => ⟨ps, rfl, hP, fun hb H' e' => kb _ rfl _ H2 e2 5 (by decide) (hD.1 hb) H' e', fun n ws hG => ⟨fun i hi H' e' => kb _ rfl _ H2 e2 i hi.six ((hD.2 n ws hG).1 i hi) H' e', fun hR p wp H3 e3 nwp h1 h2 => by
      have k := kQ H3 (e2.trans e3)
      rw [(hD.2 n ws hG).2 hR] at k
      exact k⟩⟩

abbrev s_law : Stmt := top 21
abbrev N_law : List Str := ["script", "long", "wishes", "parts", "bad_long", "way", "at", "due", "wish", "k"]
theorem sc_law : FnScope N_law ["script"] (defScope s_law) := ⟨rfl, rfl, rfl, by decide +kernel, rfl, by decide +kernel, by decide +kernel⟩
theorem bw_law : BindsWell "law" s_law ["script"] := fun _ _ _ _ _ _ us hl => match us, hl with | [_], _ => rfl

theorem parts_set {qs : List Str} {q : Str} {i : Nat} (h : Parts qs) (hq : Fine q 1000) : Parts (qs.set i q) := by
  have hm : ∀ p ∈ qs.set i q, Fine p 1000 := fun p hp => by
    rcases List.mem_or_eq_of_mem_set hp with hp | rfl
    · exact h.fine hp
    · exact hq
  refine ⟨fun e => h.ne ?_, fun p hp => (hm p hp).1, fun p hp => (hm p hp).len, by rw [List.length_set]; exact h.few⟩
  have e2 := congrArg List.length e
  rw [List.length_set] at e2
  exact List.length_eq_zero_iff.mp e2
theorem badRest_set {qs : List Str} {q : Str} (h : BadRest qs) : BadRest (qs.set 0 q) := by
  cases qs with
  | nil => exact h
  | cons p r => exact h
theorem num_list {ws : List Nat} {n : Nat} (h : ∀ w ∈ ws, w < 100) (w : Nat) (hw : w < 100) : ∀ x ∈ ws.set n w, x < 100 := fun x hx => by
  rcases List.mem_or_eq_of_mem_set hx with hx | rfl
  · exact h x hx
  · exact hw
theorem ok_law {f : Addr} {fd : FuncData} (F : FunD K "law" "law" (defArgs s_law) (defBody s_law) (defScope s_law) [] [] f fd) (T : Txt mg) (O_l_quay_by : Own P w K mg base CX0 2 "_law_quay_by" ["script"] (sp_l_quay_by K)) (O_l_cell_at : Own P w K mg base CX0 1 "_law_cell_at" ["script", "k"] (sp_l_cell_at K)) (O_l_spoilt : Own P w K mg base CX0 1 "_law_spoilt" ["parts", "way", "at"] (sp_l_spoilt K)) (O_l_tried : Own P w K mg base CX0 3 "_law_tried" ["text"] (sp_l_tried K)) : FnOk P w K mg base CX0 4 f fd ["script"] (spLaw K) := by
  refine F.ok sc_law (fun vs H Q E h => ?_) (fun cdv A outer s H vs Q E hr h => ?_)
  · obtain ⟨a, ns, rfl, _⟩ := h
    rfl
  · obtain ⟨a, ns, rfl, hS, hlen, kQ⟩ := h
    have hr_l_quay_by : Room 2 _ := hr.mono (by decide)
    have hr_l_cell_at : Room 1 _ := hr.mono (by decide)
    have hr_l_spoilt : Room 1 _ := hr.mono (by decide)
    have hr_l_tried : Room 3 _ := hr.mono (by decide)
    refine ⟨_, PSs.nox (pss_cons (ps_asg (pe_own O_l_quay_by hr_l_quay_by pass0 (pa_cons (pv 0) pa_nil)) (pg_tup (by rfl) (pgs_cons (pg_name (i := 1) sc_law.nd rfl (Or.inl rfl)) (pgs_cons (pg_name (i := 2) sc_law.nd rfl (Or.inl rfl)) pgs_nil))))
        (pss_cons (ps_set (i := 3) sc_law.nd rfl (Or.inl rfl) (pe_op op_cat (pe_lst (pa_cons (pe_op op_add_str (pe_callTy call_str_int (by rfl) T.str (by decide +kernel) (pa_cons (pv 1) pa_nil)) pe_str) pa_nil)) (pe_lc (own := [("wish", 8)]) (g := gName 8) rfl sc_law.nd (pi_list (pv 2)) (blkOk_by (N := N_law) (sc := defScope s_law) (by decide +kernel)) (fun _ _ _ _ _ => pg_name (i := 8) sc_law.nd rfl (.inl rfl)) (fun _ _ _ _ _ => pts_nil) (fun _ _ _ _ _ => (pe_callTy call_str_int (by rfl) T.str (by decide +kernel) (pa_cons (pv 8) pa_nil))))))
        (pss_cons (ps_set (i := 4) sc_law.nd rfl (Or.inl rfl) (pe_ix ix_list (pe_lst (pa_cons pe_int (pa_cons (pe_op op_add pe_int (pe_op op_mod (pe_own O_l_cell_at hr_l_cell_at pass0 (pa_cons (pv 0) (pa_cons pe_int pa_nil))) pe_int)) pa_nil))) (pe_op op_mod (pe_own O_l_cell_at hr_l_cell_at pass0 (pa_cons (pv 0) (pa_cons pe_int pa_nil))) pe_int) (fun _ _ => rfl)))
        (pss_cons (ps_set (i := 5) sc_law.nd rfl (Or.inl rfl) (pe_op op_mod (pe_own O_l_cell_at hr_l_cell_at pass0 (pa_cons (pv 0) (pa_cons pe_int pa_nil))) pe_int))
        (pss_cons (ps_set (i := 6) sc_law.nd rfl (Or.inl rfl) (pe_op op_mod (pe_own O_l_cell_at hr_l_cell_at pass0 (pa_cons (pv 0) (pa_cons pe_int pa_nil))) (pe_callB cr_len (by rfl) T.len PySem.boot_len (pa_cons (pv 3) pa_nil))))
        (pss_cons (ps_set (i := 7) sc_law.nd rfl (Or.inl rfl) pe_str)
        (pss_cons (ps_if (pt_cmpR op_eq (pv 5) pe_int (nomark _))
        (pss_one (ps_set (i := 6) sc_law.nd rfl (Or.inl rfl) (pe_op op_mod (pe_own O_l_cell_at hr_l_cell_at pass0 (pa_cons (pv 0) (pa_cons pe_int pa_nil))) (pe_op op_add (pe_callB cr_len (by rfl) T.len PySem.boot_len (pa_cons (pv 3) pa_nil)) pe_int))))
        pss_nil)
        (pss_cons (ps_if (PW.pt (pw_or (pt_cmpR op_lt (pv 5) pe_int (nomark _)) (pw_or1 (pt_cmpR op_gt (pv 5) pe_int (nomark _)))))
        (pss_cons (ps_set (i := 3) sc_law.nd rfl (Or.inl rfl) (pe_own O_l_spoilt hr_l_spoilt pass0 (pa_cons (pv 3) (pa_cons (pv 5) (pa_cons (pv 6) pa_nil)))))
          (pss_one (ps_if (PW.pt (pw_and (pt_cmpR op_gt (pv 5) pe_int (nomark _)) (pw_and (pt_cmpR op_lt (pv 5) pe_int (nomark _)) (pw_and (pt_cmpR op_gt (pv 6) pe_int (nomark _)) (pw_and1 (pt_cmpR op_eq (pe_op op_mod (pe_op op_fdiv (pe_own O_l_cell_at hr_l_cell_at pass0 (pa_cons (pv 0) (pa_cons pe_int pa_nil))) pe_int) pe_int) pe_int (nomark _)))))))
          (pss_one (ps_asg (pe_op op_add_str (pe_callTy call_str_int (by rfl) T.str (by decide +kernel) (pa_cons (pv 4) pa_nil)) pe_str) (pg_sub (pv 3) pe_int set_list)))
          pss_nil)))
        (pss_one (ps_if (pt_cmpR op_eq (pv 5) pe_int (nomark _))
          (pss_cons (ps_asg (pe_op op_add_str (pe_callTy call_str_int (by rfl) T.str (by decide +kernel) (pa_cons (pv 4) pa_nil)) pe_str) (pg_sub (pv 3) pe_int set_list))
            (pss_one (ps_set (i := 7) sc_law.nd rfl (Or.inl rfl) pe_str)))
          (pss_one (ps_if (PW.pt (pw_and (pt_cmpR op_eq (pv 5) pe_int (nomark _)) (pw_and1 (pt_cmpR op_gt (pe_callB cr_len (by rfl) T.len PySem.boot_len (pa_cons (pv 2) pa_nil)) pe_int (nomark _)))))
            (pss_cons (ps_asg (pe_callTy call_str_int (by rfl) T.str (by decide +kernel) (pa_cons (pe_op op_add (pv 1) (pe_op op_mod (pe_own O_l_cell_at hr_l_cell_at pass0 (pa_cons (pv 0) (pa_cons pe_int pa_nil))) (pe_op op_sub pe_int (pv 1)))) pa_nil)) (pg_sub (pv 3) (pe_op op_add pe_int (pe_op op_mod (pe_own O_l_cell_at hr_l_cell_at pass0 (pa_cons (pv 0) (pa_cons pe_int pa_nil))) (pe_callB cr_len (by rfl) T.len PySem.boot_len (pa_cons (pv 2) pa_nil)))) set_list))
              (pss_one (ps_set (i := 7) sc_law.nd rfl (Or.inl rfl) pe_str)))
            (pss_one (ps_if (pt_cmpR op_eq (pv 5) pe_int (nomark _))
              (pss_cons (ps_set (i := 3) sc_law.nd rfl (Or.inl rfl) (pe_op op_cat (pv 3) (pe_lc (own := [("k", 9)]) (g := gName 9) rfl sc_law.nd (pi_range1 (by rfl) T.range (pa_cons (pe_op op_sub (pe_op op_add (pv 1) pe_int) (pe_callB cr_len (by rfl) T.len PySem.boot_len (pa_cons (pv 2) pa_nil))) pa_nil)) (blkOk_by (N := N_law) (sc := defScope s_law) (by decide +kernel)) (fun _ _ _ _ _ => pg_name (i := 9) sc_law.nd rfl (.inl rfl)) (fun _ _ _ _ _ => pts_nil) (fun _ _ _ _ _ => pe_str))))
                (pss_one (ps_set (i := 7) sc_law.nd rfl (Or.inl rfl) pe_str)))
              (pss_one (ps_set (i := 7) sc_law.nd rfl (Or.inl rfl) pe_str)))))))))
        (pss_one (ps_ret (pe_cmpR op_eq (pe_own O_l_tried hr_l_tried pass0 (pa_cons (pe_bm PySem.F.plainAttrs_str PySem.F.slot_str_join PySem.F.type_str_join mt_join pe_str (pa_cons (pv 3) pa_nil)) pa_nil)) (pv 7) (nomark _)))))))))))), ?_⟩
    try dsimp only [cxOf]
    refine q_asg2 (sv_quay_by (by walk_at "ea") hS) ?_
    rintro x y H1 e1 ⟨long, ws, wp, rfl, rfl, hR, hw⟩
    obtain ⟨r1, r2, r3, r4⟩ := id hR
    have hlong : long < 100 := by omega
    have hws : ∀ w ∈ ws, w < 100 := fun w hm => by
      have := r4 w hm
      omega
    have hn40 : ws.length ≤ 40 := by omega
    have hlen := rowParts_len long ws
    have hP := rowParts_parts hlong hws (by omega)
    have hG := rowParts_good hlong hws
    have hn := numS_len (n := long) (by omega)
    refine q_asgL (xs := (rowParts long ws).map V.str) (el_is (el_catS (xs := [headS long]) (ys := ws.map numS) (el_one (ev_op (ev_str (n := long) (ev_var rfl) (by omega)) ev_c (rv_addS (by rw [one_len rfl]; omega)))) (el_is (el_lcL (K := K) (fun _ => true) (fun i => .str (numS (ws.getD i 0))) (ev_var rfl) (sq_of hw) (by rw [vn_len]; omega) (fun _ => rfl) (fun _ _ _ _ _ => et_yes) (fun i x H3 e3 hx _ => ?_)) ?_) (by rw [List.length_map, List.length_cons, List.length_nil]; omega)) rfl) fun pp H2 npp e2 hpp => ?_
    · obtain ⟨w, rfl, hwi, hi, hm⟩ := vn_at hx
      rw [List.getD_eq_getElem?_getD, hwi]
      exact ev_str (n := w) (ev_var rfl) (by have := hws w hm; omega)
    · rw [given_all (fun _ => rfl), vn_len]
      refine List.ext_getElem? fun i => ?_
      rw [List.getElem?_map, List.getElem?_map, List.getElem?_map]
      by_cases hi : i < ws.length
      · rw [List.getElem?_range hi, List.getElem?_eq_getElem hi]
        show some (V.str (numS (ws.getD i 0))) = some (V.str (numS ws[i]))
        rw [List.getD_eq_getElem?_getD, List.getElem?_eq_getElem hi]
        rfl
      · rw [List.getElem?_eq_none (by rw [List.length_range]; omega), List.getElem?_eq_none (by omega)]
        rfl
    have eH2 : Ex H H2 := e1.trans e2
    have hS2 := ex_l eH2 hS
    have hw2 := e2 _ _ hw
    obtain ⟨bl, hbat, hbl, hb99⟩ : ∃ bl : Nat, atI [V.int 0, V.int (41 + cellAt ns 54 % 59)] (cellAt ns 55 % 2) = some (.int (bl : Int)) ∧ (bl = 0 ∨ 41 ≤ bl) ∧ bl < 100 := by
      have h2 : cellAt ns 55 % 2 = 0 ∨ cellAt ns 55 % 2 = 1 := by omega
      rcases h2 with h | h
      · rw [h]
        exact ⟨0, rfl, .inl rfl, by omega⟩
      · rw [h]
        refine ⟨(41 + cellAt ns 54 % 59).toNat, ?_, by omega, by omega⟩
        rw [show (((41 + cellAt ns 54 % 59).toNat : Nat) : Int) = 41 + cellAt ns 54 % 59 by omega]
        rfl
    refine q_asg (v := .int (bl : Int)) (ev_ixNL (i := cellAt ns 55 % 2) (el_lst (ea_cons ev_c (ea_cons (ev_op ev_c (ev_op (sv_cell (by walk_at "ea") hS2 (by omega)) ev_c (rv_I (by walk_at "side"))) rv_I0) ea_nil)) (Nat.le_of_ble_eq_true rfl)) (fun H3 e3 => ev_op (sv_cell (by walk_at "ea") (ex_l e3 hS2) (by omega)) ev_c (rv_I (by walk_at "side"))) hbat) fun H3 e3 => ?_
    have hS3 := ex_l e3 hS2
    refine q_asg (ev_op (sv_cell (by walk_at "ea") hS3 (by omega)) ev_c (rv_I (by walk_at "side"))) fun H4 e4 => ?_
    have hway : 0 ≤ cellAt ns 53 % 20 ∧ cellAt ns 53 % 20 < 20 := by omega
    generalize cellAt ns 53 % 20 = way at hway
    have hS4 := ex_l e4 hS3
    have hpp4 := e4 _ _ (e3 _ _ hpp)
    have hw4 := e4 _ _ (e3 _ _ hw2)
    have hplen : ((rowParts long ws).map V.str).length = ws.length + 1 := by rw [List.length_map, hlen]
    obtain ⟨j0, hj0, hj0l⟩ := mod_nat (cellAt ns 56) (m := ((ws.length + 1 : Nat) : Int)) (n := ws.length + 1) (by omega) (by omega)
    refine q_asg (v := .int (j0 : Int)) (ev_is (ev_op (sv_cell (by walk_at "ea") hS4 (by omega)) (ev_is (ev_len (K := K) (ev_var rfl) (sq_of hpp4)) (by rw [hplen])) (rv_I (by show (0 : Int) < _; omega))) (congrArg V.int hj0)) fun H5 e5 => ?_
    refine q_asg ev_c fun H6 e6 => ?_
    have hS6 := ex_l (e5.trans e6) hS4
    have hpp6 := e6 _ _ (e5 _ _ hpp4)
    have hw6 := e6 _ _ (e5 _ _ hw4)
    refine q_ifP (fun v => ∃ j : Nat, v = .int (j : Int) ∧ (j < ws.length + 1 ∨ way = 1 ∧ j ≤ ws.length + 1)) (b := decide (V.int way = V.int 1)) (et_test (ev_op (ev_var rfl) ev_c (rv_eq rfl))) (fun hb => ?_) (fun _ => ⟨_, rfl, j0, rfl, .inl hj0l⟩) ?_
    · obtain ⟨j, hj, hjl⟩ := mod_nat (cellAt ns 57) (m := ((ws.length + 1 : Nat) : Int) + 1) (n := ws.length + 2) (by omega) (by omega)
      exact ⟨_, ev_op (sv_cell (by walk_at "ea") hS6 (by omega)) (ev_op (ev_is (ev_len (K := K) (ev_var rfl) (sq_of hpp6)) (by rw [hplen])) ev_c rv_I0) (rv_I (by show (0 : Int) < _; omega)), j, congrArg V.int hj, .inr ⟨V.int.inj (of_decide_eq_true hb), by omega⟩⟩
    rintro v H7 ⟨j, rfl, hj⟩ e7
    have hS7 := ex_l e7 hS6
    have hpp7 := e7 _ _ hpp6
    have hw7 := e7 _ _ hw6
    refine q_ifN (fun σ' H' => ∃ qp qs w, σ' = [some (.ref a), some (.int (long : Int)), some (.ref wp), some (.ref qp), some (.int (bl : Int)), some (.int way), some (.int (j : Int)), some (.str w), none, none] ∧ H' qp = some (.lst (qs.map V.str)) ∧ Parts qs ∧ DueN qs w) (b := decide (way < 14) || decide (17 < way)) (et_or (et_test (ev_op (ev_var rfl) ev_c rv_I0)) fun _ => et_test (ev_op (ev_var rfl) ev_c rv_I0)) ?_ (fun hb H8 e8 hk => ?_) (fun hb H8 e8 hk => ?_)
    · rintro σ' H8 ⟨qp, qs, w, rfl, hqp, hPq, hD⟩
      exact s_ret (ev_is (ev_op (sv_tried (K := K) (ps := qs) (w := w) (ea_cons (ev_join (K := K) ev_c (ev_var rfl) (sq_of hqp) (join_room hPq.len hPq.few (by decide))) ea_nil) hPq hD) (ev_var rfl) (rv_eq rfl)) (by rw [decide_eq_true rfl])) fun H9 e9 => kQ H9
    · have hS8 := ex_l e8 hS7
      refine q_asgSp (sv_spoilt (K := K) (long := long) (ws := ws) (by walk_at "ea") (sq_of (e8 _ _ hpp7)) hlong hws hn40 hj) fun qs hq qp H9 nqp e9 hqp => ?_
      have hS9 := ex_l e9 hS8
      refine s_when (b := decide (1 < way) && (decide (way < 6) && (decide (0 < (j : Int)) && decide (V.int (cellAt ns 55 / 2 % 2) = V.int 1)))) (et_and (et_test (ev_op (ev_var rfl) ev_c rv_I0)) fun _ => et_and (et_test (ev_op (ev_var rfl) ev_c rv_I0)) fun _ => et_and (et_test (ev_op (ev_var rfl) ev_c rv_I0)) fun _ => et_test (ev_op (ev_op (ev_op (sv_cell (by walk_at "ea") hS9 (by omega)) ev_c (rv_I (by walk_at "side"))) ev_c (rv_I (by walk_at "side"))) ev_c (rv_eq rfl))) (fun hb H10 e10 => ?_) (fun _ H10 e10 => hk _ _ ⟨qp, qs, "note", rfl, e10 _ _ hqp, hq.parts, due_bad hq.bad⟩)
      rw [Bool.and_eq_true, Bool.and_eq_true, Bool.and_eq_true, decide_eq_true_eq, decide_eq_true_eq, decide_eq_true_eq] at hb
      have hrest := hq.rest hb.1 hb.2.1 (by have := hb.2.2.1; omega)
      have hq0 : 0 < qs.length := by
        cases qs with
        | nil => exact absurd rfl hq.parts.ne
        | cons p r => exact Nat.succ_pos _
      have hnb := numS_len (n := bl) (by omega)
      refine s_setL (j := 0) (v := .str (headS bl)) (e10 _ _ hqp) (ev_op (ev_str (n := bl) (ev_var rfl) (by omega)) ev_c (rv_addS (by rw [one_len rfl]; omega))) (ev_var rfl) ev_c (by rw [List.length_map]; exact hq0) fun H11 e11 => hk _ _ ⟨qp, qs.set 0 (headS bl), "note", rfl, ?_, parts_set hq.parts ((headS_fine hb99).le (by decide)), due_bad (badRest_set hrest).bad⟩
      rw [upd_same, List.map_set]
    · have hS8 := ex_l e8 hS7
      have hpp8 := e8 _ _ hpp7
      have hw8 := e8 _ _ hw7
      refine s_if (b := decide (V.int way = V.int 14)) (et_test (ev_op (ev_var rfl) ev_c (rv_eq rfl))) (fun _ H9 e9 => ?_) (fun _ H9 e9 => ?_)
      · have hnb := numS_len (n := bl) (by omega)
        refine q_setL (j := 0) (v := .str (headS bl)) (e9 _ _ hpp8) (ev_op (ev_str (n := bl) (ev_var rfl) (by omega)) ev_c (rv_addS (by rw [one_len rfl]; omega))) (ev_var rfl) ev_c (by rw [List.length_map, hlen]; omega) fun H10 e10 => ?_
        refine s_asg ev_c fun H11 e11 => hk _ _ ⟨pp, rowParts bl ws, "quay", rfl, e11 _ _ ?_, rowParts_parts hb99 hws (by omega), due_ask (i := 0) (rowParts_good hb99 hws) (.inl ⟨rfl, by omega⟩)⟩
        rw [upd_same]
        rfl
      have hS9 := ex_l e9 hS8
      have hpp9 := e9 _ _ hpp8
      have hw9 := e9 _ _ hw8
      refine s_if (b := decide (V.int way = V.int 15) && decide (0 < ((ws.length : Nat) : Int))) (et_and (et_test (ev_op (ev_var rfl) ev_c (rv_eq rfl))) fun _ => et_test (ev_op (ev_is (ev_len (K := K) (ev_var rfl) (sq_of hw9)) (by rw [vn_len])) ev_c rv_I0)) (fun hb H10 e10 => ?_) (fun _ H10 e10 => ?_)
      · rw [Bool.and_eq_true, decide_eq_true_eq, decide_eq_true_eq] at hb
        have hpos := hb.2
        have hS10 := ex_l e10 hS9
        have hw10 := e10 _ _ hw9
        obtain ⟨i, hi, hil⟩ := mod_nat (cellAt ns 56) (m := ((ws.length : Nat) : Int)) (n := ws.length) (by omega) (by omega)
        obtain ⟨u, hu, hul⟩ := mod_nat (cellAt ns 54) (m := 100 - (long : Int)) (n := 100 - long) (by omega) (by omega)
        refine q_setL (j := i + 1) (v := .str (numS (long + u))) (e10 _ _ hpp9) (ev_str (n := long + u) (ev_is (ev_op (ev_var rfl) (ev_op (sv_cell (by walk_at "ea") hS10 (by omega)) (ev_op ev_c (ev_var rfl) rv_I0) (rv_I (by show (0 : Int) < _; omega))) rv_I0) (congrArg V.int (by omega))) (by omega)) (ev_var rfl) (ev_is (ev_op ev_c (ev_op (sv_cell (by walk_at "ea") hS10 (by omega)) (ev_is (ev_len (K := K) (ev_var rfl) (sq_of hw10)) (by rw [vn_len])) (rv_I (by show (0 : Int) < _; omega))) rv_I0) (congrArg V.int (by omega))) (by rw [List.length_map, hlen]; omega) fun H11 e11 => ?_
        have hws2 := num_list (n := i) hws (long + u) (by omega)
        refine s_asg ev_c fun H12 e12 => hk _ _ ⟨pp, rowParts long (ws.set i (long + u)), "row", rfl, e12 _ _ ?_, rowParts_parts hlong hws2 (by rw [List.length_set]; omega), due_ask (i := 1) (rowParts_good hlong hws2) (.inr ⟨rfl, by omega, by omega, .inr ⟨((long + u : Nat) : Int), List.mem_map.mpr ⟨long + u, List.mem_iff_getElem?.mpr ⟨i, by rw [List.getElem?_set_self hil]⟩, rfl⟩, by omega⟩⟩)⟩
        rw [upd_same]
        unfold rowParts
        rw [List.map_set, List.map_cons, List.map_cons, List.set_cons_succ, List.map_set]
      have hpp10 := e10 _ _ hpp9
      have hw10 := e10 _ _ hw9
      refine s_if (b := decide (V.int way = V.int 16)) (et_test (ev_op (ev_var rfl) ev_c (rv_eq rfl))) (fun _ H11 e11 => ?_) (fun _ H11 e11 => ?_)
      · obtain ⟨m, hm, hml⟩ : ∃ m : Nat, (long : Int) + 1 - (ws.length : Int) = (m : Int) ∧ m + ws.length = long + 1 := ⟨((long : Int) + 1 - (ws.length : Int)).toNat, by omega, by omega⟩
        have hws2 : ∀ w ∈ ws ++ List.replicate m 0, w < 100 := fun w hm => by
          rcases List.mem_append.mp hm with hm | hm
          · exact hws w hm
          · rw [(List.mem_replicate.mp hm).2]
            omega
        have hl2 : (ws ++ List.replicate m 0).length = long + 1 := by
          rw [List.length_append, List.length_replicate]
          omega
        refine q_asgL (xs := (rowParts long (ws ++ List.replicate m 0)).map V.str) (el_is (el_cat (ev_var rfl) (e11 _ _ hpp10) (el_is (el_lcR1 (n := (m : Int)) (fun _ => true) (fun _ => .str "0") (ea_cons (ev_is (ev_op (ev_op (ev_var rfl) ev_c rv_I0) (ev_is (ev_len (K := K) (ev_var rfl) (sq_of (e11 _ _ hw10))) (by rw [vn_len])) rv_I0) (congrArg V.int hm)) ea_nil) (by omega) (fun _ => rfl) (fun _ _ _ _ => et_yes) (fun _ _ _ _ _ => ev_c)) (ys := (List.replicate m (numS 0)).map V.str) ?_) (by rw [hplen, List.length_map, List.length_replicate]; omega)) ?_) fun qp H12 nqp e12 hqp => ?_
        · rw [given_all (fun _ => rfl), Int.toNat_natCast, List.map_replicate]
          refine List.ext_getElem? fun i => ?_
          rw [List.getElem?_map, List.getElem?_replicate]
          by_cases h : i < m
          · rw [List.getElem?_range h, if_pos h]
            exact congrArg (fun s => some (V.str s)) (ext_tl (by rw [sg0, tl_numS, numL_lt (by decide)]))
          · rw [List.getElem?_eq_none (by rw [List.length_range]; omega), if_neg h]
            rfl
        · refine List.map_append.symm.trans (congrArg (List.map V.str) ?_)
          unfold rowParts
          rw [List.map_append, List.map_replicate]
          rfl
        exact s_asg ev_c fun H13 e13 => hk _ _ ⟨qp, rowParts long (ws ++ List.replicate m 0), "row", rfl, e13 _ _ hqp, rowParts_parts hlong hws2 (by omega), due_ask (i := 1) (rowParts_good hlong hws2) (.inr ⟨rfl, by omega, by omega, .inl (by rw [List.length_map, hl2]; omega)⟩)⟩
      · exact s_asg ev_c fun H12 e12 => hk _ _ ⟨pp, rowParts long ws, "done", rfl, e12 _ _ (e11 _ _ hpp10), hP, due_done hG hR⟩

end
def d_l_cell_at : He.DefD := ⟨("_law_cell_at", none), "_law_cell_at", "_law_cell_at", defArgs s_l_cell_at, defBody s_l_cell_at, defScope s_l_cell_at, [], []⟩
def d_l_quay_by : He.DefD := ⟨("_law_quay_by", none), "_law_quay_by", "_law_quay_by", defArgs s_l_quay_by, defBody s_l_quay_by, defScope s_l_quay_by, [], []⟩
def d_l_spoilt : He.DefD := ⟨("_law_spoilt", none), "_law_spoilt", "_law_spoilt", defArgs s_l_spoilt, defBody s_l_spoilt, defScope s_l_spoilt, [], []⟩
def d_number_of : He.DefD := ⟨("number_of", none), "number_of", "number_of", defArgs s_number_of, defBody s_number_of, defScope s_number_of, [], []⟩
def d_asked : He.DefD := ⟨("asked", none), "asked", "asked", defArgs s_asked, defBody s_asked, defScope s_asked, [], []⟩
def d_read : He.DefD := ⟨("read", none), "read", "read", defArgs s_read, defBody s_read, defScope s_read, [], []⟩
def d_l_word_of : He.DefD := ⟨("_law_word_of", none), "_law_word_of", "_law_word_of", defArgs s_l_word_of, defBody s_l_word_of, defScope s_l_word_of, [], []⟩
def d_l_tried : He.DefD := ⟨("_law_tried", none), "_law_tried", "_law_tried", defArgs s_l_tried, defBody s_l_tried, defScope s_l_tried, [], []⟩
def d_law : He.DefD := ⟨("law", none), "law", "law", defArgs s_law, defBody s_law, defScope s_law, [], []⟩
def fns : List He.DefD := [d_l_cell_at, d_l_quay_by, d_l_spoilt, d_number_of, d_asked, d_read, d_l_word_of, d_l_tried, d_law]
def fas : List He.Fa := [.free "ValueError", .free "bool", .free "int", .free "isinstance", .free "len", .free "list", .free "max", .free "min", .free "range", .free "reversed", .free "set", .free "sorted", .free "str", .free "sum", .free "tuple", .glo "_law_cell_at", .glo "_law_quay_by", .glo "_law_spoilt", .glo "number_of", .glo "asked", .glo "read", .glo "_law_word_of", .glo "_law_tried", .glo "law", .str "FIGURES" "0123456789", .int "LONGEST" 40, .glo "NoNote", .glo "NoQuay", .glo "NoRow", .glo "NoTree", .glo "NoOutcome", .glo "NoRank", .glo "MoorError"]
def mores : Kf → Bool := wordsB
abbrev R : PySem.W.OpenRow := PySem.W.OpenLaw.row PySem.Challenge.rw_wishmoor_k22_read
abbrev hk : PySem.W.Hook := hookM 5 fas fns mores
def ob (s : PySem.W.SharedT) : AlM := obsM 5 fas fns mores (HandSHeadRun.getT s)
theorem ob_eq (s : PySem.W.SharedT) : ob s = hk.obs s.abs := obsM_eq (HandSHeadRun.getT_eq s)
def loose : List PySem.Str := ["asked", "number_of", "read", "_law_cell_at", "_law_quay_by", "_law_word_of", "_law_tried", "_law_spoilt", "LONGEST", "FIGURES", "MoorError", "NoQuay", "NoRow", "NoOutcome", "NoTree", "NoRank", "NoNote"]
set_option maxHeartbeats 0 in
theorem run (w : World) : HandSHeadRun.RunEq R (PySem.W.view R.prog [21]) hk ob 4000 loose w := by
  intro os
  kernel_rfl
theorem facts {P : Program} {w : World} {K : Kf} {h : Heap} {mg : Mg} {f : Addr} (X : K.In h) (G : h.Ns mainGlobals mg) (hfa : mg ("law" : Str) = some (.ref f)) (c : SaysM fas fns mores K) :
    ∃ fd : FuncData, (∀ (s : Shared) (v : Value), BindsTo s fd ⟨[v], []⟩ [("script", v)]) ∧ ∀ base : Heap, K.In base → base.Ns mainGlobals mg → FnOk P w K mg base CX0 4 f fd ["script"] (spLaw K) := by
  have T : Txt mg := ⟨He.free_ok X G (c.1.fact 4), He.free_ok X G (c.1.fact 8), He.free_ok X G (c.1.fact 5), He.free_ok X G (c.1.fact 3), He.free_ok X G (c.1.fact 2), He.free_ok X G (c.1.fact 1), He.free_ok X G (c.1.fact 12), He.free_ok X G (c.1.fact 14), He.free_ok X G (c.1.fact 9), He.free_ok X G (c.1.fact 11), He.free_ok X G (c.1.fact 13), He.free_ok X G (c.1.fact 7), He.free_ok X G (c.1.fact 6), He.free_ok X G (c.1.fact 10), He.free_ok X G (c.1.fact 0)⟩
  obtain ⟨fd_l_cell_at, F_l_cell_at⟩ := c.1.def_ 0 (d := d_l_cell_at) rfl
  have D_l_cell_at : Def K mg "_law_cell_at" s_l_cell_at := ⟨_, fd_l_cell_at, F_l_cell_at, He.glo_ok X G (c.1.fact 15)⟩
  obtain ⟨fd_l_quay_by, F_l_quay_by⟩ := c.1.def_ 1 (d := d_l_quay_by) rfl
  have D_l_quay_by : Def K mg "_law_quay_by" s_l_quay_by := ⟨_, fd_l_quay_by, F_l_quay_by, He.glo_ok X G (c.1.fact 16)⟩
  obtain ⟨fd_l_spoilt, F_l_spoilt⟩ := c.1.def_ 2 (d := d_l_spoilt) rfl
  have D_l_spoilt : Def K mg "_law_spoilt" s_l_spoilt := ⟨_, fd_l_spoilt, F_l_spoilt, He.glo_ok X G (c.1.fact 17)⟩
  obtain ⟨fd_number_of, F_number_of⟩ := c.1.def_ 3 (d := d_number_of) rfl
  have D_number_of : Def K mg "number_of" s_number_of := ⟨_, fd_number_of, F_number_of, He.glo_ok X G (c.1.fact 18)⟩
  obtain ⟨fd_asked, F_asked⟩ := c.1.def_ 4 (d := d_asked) rfl
  have D_asked : Def K mg "asked" s_asked := ⟨_, fd_asked, F_asked, He.glo_ok X G (c.1.fact 19)⟩
  obtain ⟨fd_read, F_read⟩ := c.1.def_ 5 (d := d_read) rfl
  have D_read : Def K mg "read" s_read := ⟨_, fd_read, F_read, He.glo_ok X G (c.1.fact 20)⟩
  obtain ⟨fd_l_word_of, F_l_word_of⟩ := c.1.def_ 6 (d := d_l_word_of) rfl
  have D_l_word_of : Def K mg "_law_word_of" s_l_word_of := ⟨_, fd_l_word_of, F_l_word_of, He.glo_ok X G (c.1.fact 21)⟩
  obtain ⟨fd_l_tried, F_l_tried⟩ := c.1.def_ 7 (d := d_l_tried) rfl
  have D_l_tried : Def K mg "_law_tried" s_l_tried := ⟨_, fd_l_tried, F_l_tried, He.glo_ok X G (c.1.fact 22)⟩
  obtain ⟨fd, F⟩ := c.1.def_ 8 (d := d_law) rfl
  have e := hfa.symm.trans (He.glo_ok X G (c.1.fact 23))
  cases e
  obtain ⟨tFIGURES, cFIGURES⟩ := He.str_ok X G (c.1.fact 24)
  obtain ⟨tLONGEST, cLONGEST⟩ := He.int_ok X G (c.1.fact 25)
  have words := words_ok c.2
  have gNoNote := He.glo_ok X G (c.1.fact 26)
  have gNoQuay := He.glo_ok X G (c.1.fact 27)
  have gNoRow := He.glo_ok X G (c.1.fact 28)
  have gNoTree := He.glo_ok X G (c.1.fact 29)
  have gNoOutcome := He.glo_ok X G (c.1.fact 30)
  have gNoRank := He.glo_ok X G (c.1.fact 31)
  have gMoorError := He.glo_ok X G (c.1.fact 32)
  have E_NoNote := exc_of gNoNote (words.x 5 (by decide))
  have E_NoQuay := exc_of gNoQuay (words.x 0 (by decide))
  have E_NoRow := exc_of gNoRow (words.x 1 (by decide))
  have b := FunD.bindsA (ps := ["script"]) F fun _ _ _ _ _ _ us hl => match us, hl with | [_], _ => rfl
  refine ⟨fd, fun s v => b s [v] rfl, fun base _ _ => ?_⟩
  have O_l_cell_at : Own P w K mg base CX0 1 "_law_cell_at" ["script", "k"] (sp_l_cell_at K) := ok_l_cell_at D_l_cell_at T
  have O_l_quay_by : Own P w K mg base CX0 2 "_law_quay_by" ["script"] (sp_l_quay_by K) := ok_l_quay_by D_l_quay_by T O_l_cell_at
  have O_l_spoilt : Own P w K mg base CX0 1 "_law_spoilt" ["parts", "way", "at"] (sp_l_spoilt K) := ok_l_spoilt D_l_spoilt T
  have O_number_of : Own P w K mg base (L2.CX P w) 1 "number_of" ["figures"] (sp_number_of K) := ok_number_of D_number_of T cFIGURES E_NoNote
  have O_asked : Own P w K mg base (L2.CX P w) 1 "asked" ["long", "wishes"] (sp_asked K) := ok_asked D_asked T cLONGEST E_NoQuay E_NoRow
  have O_read : Own P w K mg base (L2.CX P w) 2 "read" ["text"] (sp_read K) := ok_read D_read T E_NoNote O_number_of O_asked
  have O_l_word_of : OwnP P w K mg base 1 "_law_word_of" ["e"] (sp_l_word_of K) := ok_l_word_of D_l_word_of T gNoQuay gNoTree gNoOutcome gNoRow gNoRank gNoNote
  have O_l_tried : Own P w K mg base CX0 3 "_law_tried" ["text"] (sp_l_tried K) := ok_l_tried D_l_tried T gMoorError words O_read O_l_word_of
  exact ok_law F T O_l_quay_by O_l_cell_at O_l_spoilt O_l_tried

end Wm
open PySem PySem.W PySem.Calls PyProof.Rows
set_option maxHeartbeats 0 in
theorem PySem.Challenge.cw_wishmoor_k22_read_holds : PySem.Challenge.rw_wishmoor_k22_read.Holds := by
  w_on; o_law
  refine HandSHeadRun.head_any (r := OpenLaw.row PySem.Challenge.rw_wishmoor_k22_read) (q := view (OpenLaw.row PySem.Challenge.rw_wishmoor_k22_read).prog [21]) (H := Wm.hk) (ob := Wm.ob) (M := 4000) (loose := Wm.loose) (d := HandSHeadRun.topDef (OpenLaw.row PySem.Challenge.rw_wishmoor_k22_read).prog 21) (kwd := []) Wm.ob_eq
    (by kernel_rfl) (fun s => by kernel_rfl) Wm.run (by kernel_rfl) (by kernel_rfl) (by kernel_rfl) (by rfl) (by first | assumption | decide +kernel) (by decide +kernel) ⟨rfl, rfl, rfl, rfl, rfl, by decide +kernel⟩ ?hw ?hc
  case hw => w_witness2
  case hc =>
    refine L2.walk_ofE (l := PySem.Challenge.rw_wishmoor_k22_read) (n := 63) (k := 4) (x := "script") (CX := L2.CX0) rfl (by decide) (by kernel_rfl) ⟨rfl, by decide, by decide⟩ ?F (fun _ _ _ _ z => z)
    intro w mg fa h Y G hmg0
    obtain ⟨K, KX, c⟩ := Y
    have hmg : mg ("law" : PySem.Str) = some (.ref fa) := by
      have e : (HandSHeadRun.topDef (OpenLaw.row PySem.Challenge.rw_wishmoor_k22_read).prog 21).name = ("law" : PySem.Str) := by kernel_rfl
      rw [← e]
      exact hmg0
    obtain ⟨fd, hb, hF⟩ := Wm.facts (P := (PySem.Challenge.rw_wishmoor_k22_read).prog) (w := w) KX G hmg c
    exact ⟨K, fd, Wm.spLaw K, KX, hb, fun H a ns hl _ hS => ⟨a, ns, rfl, hS, hl, fun _ => rfl⟩, hF⟩
