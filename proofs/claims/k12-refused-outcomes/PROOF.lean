import PyProof.Rows.All
import Wide.All
import OpenK.AllK
import Wide.FinOn
import KE.KStateDown
import Lean
import HandS.Base
import HandS.Call
import HandS.List
import HandS.Comp
import HandS.Ends
import HandS.Iter
import HandS.Dict
import HandS.More
import HandS.Words
import HandS.WordsList
import HandS.WordsExc
import HandS.Exc
import HandS.ExcOwn
import HandS.TryOnly
import HandS.Evl
import HandS.IsInst
import HandS.Conv
import HandS.RevRange
import HandS.Rev
import HandS.SortRule
import HandS.SortInts
import HandS.SetFor
import HandS.Defaults
import HandS.Head0
import HandS.Head1
import HandS.Head2
import HandS.HeadEnd
import HandS.HeadHook1
import HandS.HeadHook2
import HandS.HotCalls
import HandS.ExcIs
import PySem.Challenge.RW_wishmoor_k12_refused_outcomes
set_option Elab.async false
set_option linter.all false
set_option maxRecDepth 100000
set_option maxHeartbeats 400000
/-! THE LAYER: a def as the top leaves it (Def), as callers use it (Own), and what Evl lacks -/
namespace Wm
open PySem PySem.Spec PyProof.Rows L2 Evl
abbrev Mg := Str → Option Value
abbrev Kf := PySem.W.Frag

structure Def (K : Kf) (mg : Mg) (x : Str) (st : Stmt) : Prop where
  ex : ∃ (f : Addr) (fd : FuncData), FunD K x x (defArgs st) (defBody st) (defScope st) [] [] f fd ∧ mg x = some (.ref f)
structure Own (P : Program) (w : World) (K : Kf) (mg : Mg) (base : Heap) (CX : CXT) (k : Nat) (x : Str) (ps : List Str) (sp : Sp) : Prop where
  ex : ∃ (f : Addr) (fd : FuncData), FnOk P w K mg base CX k f fd ps sp ∧ mg x = some (.ref f) ∧ PySem.W.keepIn K (.ref f) = true ∧ Binds K fd ps []
abbrev BindsWell (x : Str) (st : Stmt) (ps : List Str) : Prop := ∀ (kV doc pm : Value) (an : Option Addr) (cdv ct : Value) (us : List Value), us.length = ps.length →
  bindArgs (PySem.W.fnOf x x (defArgs st) (defBody st) (defScope st) .none kV doc pm an cdv ct) ⟨us, []⟩ = pure (ps.zip us)
section
variable {P : Program} {w : World} {K : Kf} {mg : Mg} {base : Heap}
/-- nothing is raised out of the def -/
theorem Def.calm {x : Str} {st : Stmt} {N ps : List Str} {k : Nat} {sp : Sp} (D : Def K mg x st) (S : FnScope N ps (defScope st)) (b : BindsWell x st ps) (len : ∀ vs H Q E, sp vs H Q E → vs.length = ps.length)
    (body : ∀ (f : Addr) (cdv : Value) (A : Around) (outer : List Env) (s : Shared) (H : Hp) (vs : List V) (Q : VK) (E : XK), Room k (A.deeper (envOfC x (defScope st) s.heap.objs.size f cdv)) → sp vs H Q E →
      ∃ t, PSs (cxOf CX0 P w K mg base N x (defScope st) f cdv A outer s H E).nox (defBody st) t ∧ t { nx := fun _ H' => Q .non H', rt := Q } (start N vs) H) : Own P w K mg base CX0 (k + 1) x ps sp := by
  obtain ⟨f, fd, F, m⟩ := D.ex
  refine ⟨f, fd, F.ok S len fun cdv A outer s H vs Q E hr h => ?_, m, F.kp, F.bindsN b⟩
  obtain ⟨t, h1, h2⟩ := body f cdv A outer s H vs Q E hr h
  exact ⟨t, h1.nox, h2⟩
/-- something may be raised out of it -/
theorem Def.hot {x : Str} {st : Stmt} {N ps : List Str} {k : Nat} {sp : Sp} (D : Def K mg x st) (S : FnScope N ps (defScope st)) (b : BindsWell x st ps) (len : ∀ vs H Q E, sp vs H Q E → vs.length = ps.length)
    (body : ∀ (f : Addr) (cdv : Value) (A : Around) (outer : List Env) (s : Shared) (H : Hp) (vs : List V) (Q : VK) (E : XK), Room k (A.deeper (envOfC x (defScope st) s.heap.objs.size f cdv)) → sp vs H Q E →
      ∃ t, PSs (cxOf (L2.CX P w) P w K mg base N x (defScope st) f cdv A outer s H E) (defBody st) t ∧ t { nx := fun _ H' => Q .non H', rt := Q } (start N vs) H) : Own P w K mg base (L2.CX P w) (k + 1) x ps sp := by
  obtain ⟨f, fd, F, m⟩ := D.ex
  exact ⟨f, fd, F.ok S len fun cdv A outer s H vs Q E hr h => body f cdv A outer s H vs Q E hr h, m, F.kp, F.bindsN b⟩
end
section
variable {X : Cx} {CX : CXT} {k : Nat} {ps : List Str} {sp : Sp} {E : XK} {x : Str} {p pos : Pos} {e : Expr} {es : List Expr} {t : TA}
theorem pe_own (F : Own X.prog X.w X.K X.mg X.base CX k x ps sp) (hr : Room k X.A) (hx : Passes CX X E) (ha : PA X (e :: es) t) (hg : Gl X x := by rfl) (hdb : (x == ("__debug__" : Str)) = false := by decide)
    (he : starEach (e :: es) X.env = (false, eval e X.env) :: starEach es X.env := by rfl) (hpl : (backTo pos (starEach es X.env)).any (·.1) = false := by rfl) : PE X (.Call (.Name x p) (e :: es) [] pos) (tCall sp [] E t) := by
  obtain ⟨f, fd, G, m, kp, b⟩ := F.ex
  exact pe_call G hr hg m kp b .nil hx ha hdb he hpl
theorem op_inK {K : Kf} (h : X.K = K) : OpR X (compareOp .In) (rIn K false) := h ▸ op_in_seq
theorem op_notInK {K : Kf} (h : X.K = K) : OpR X (compareOp .NotIn) (rIn K true) := h ▸ op_notIn_seq
theorem ix_listK {K : Kf} (h : X.K = K) : IxR X (rIxL K) := h ▸ ix_list
theorem ix_tupK {K : Kf} (h : X.K = K) : IxR X (rIxT K) := h ▸ ix_tup
theorem op_eqK {K : Kf} (h : X.K = K) (hu : X.A.units + 64 < cLine) : OpR X (compareOp .Eq) (rEqD K) := h ▸ op_eqD hu
theorem cr_lenK {K : Kf} (h : X.K = K) : CallR X (.builtin "len") (rLenS K) := h ▸ call_len_seq
theorem pg_tupK {K : Kf} {es : List Expr} {j n : Nat} {g : TGs} {pos : Pos} (h : X.K = K) (hc : X.calm = true) (hs : PGs X es g) (hn : (assignEach es X.env).length = n := by rfl) (ht : (assignEach es X.env).findIdx? (·.1) = none := by rfl) : PG X (.Tuple es j pos) (gTup K n g) := h ▸ pg_tup hc hs hn ht
theorem mt_indexK {K : Kf} (h : X.K = K) : MtR X "list.index" (rIndex K) := h ▸ mt_index
theorem pe_bmK {K : Kf} {o e : Expr} {es : List Expr} {to : TE} {t : TA} {name : Str} {apos cpos : Pos} {T id : String} {r : V → List V → Hp → VK → Prop} (h : X.K = K) (pa : PlainAttrs T) (slot : Slot T name id) (hty : typeOf (.builtin id) = pure (.type "method_descriptor")) (hm : MtR X id r) (ho : PE X o to) (ha : PA X (e :: es) t) (hbase : attributeBase o name X.env (eval o X.env) = eval o X.env := by rfl) (hfew : ((backTo cpos (starEach (e :: es) X.env)).all (fun x => !x.1) && (backToKw cpos (keywordEach [] X.env)).all (fun x => x.1.isSome) && decide ((e :: es).length + ([] : List Keyword).length + (if ([] : List Keyword).isEmpty then 0 else 1) < 30)) = true := by rfl) (hline : (apos.endLine == cpos.line) = true := by rfl) (hs : starEach (e :: es) X.env = (false, eval e X.env) :: starEach es X.env := by rfl) (hplain : (backTo cpos (starEach es X.env)).any (·.1) = false := by rfl) : PE X (.Call (.Attribute o name apos) (e :: es) [] cpos) (tBM K T r to t) := h ▸ pe_bm pa slot hty hm ho ha hbase hfew hline hs hplain
theorem cr_len : CallR X (.builtin "len") (rLenS X.K) := call_len_seq
theorem cr_list : CallR X (.type "list") (rListS X.K) := call_list_of
end
/-- the names that the program leaves to the built-ins -/
structure Txt (mg : Mg) : Prop where
  len : mg "len" = none
  range : mg "range" = none
  list : mg "list" = none
  isinstance : mg "isinstance" = none
  int : mg "int" = none
  bool : mg "bool" = none
  str : mg "str" = none
  tuple : mg "tuple" = none
  reversed : mg "reversed" = none
  sorted : mg "sorted" = none
  sum : mg "sum" = none
  min : mg "min" = none
  max : mg "max" = none
  set : mg "set" = none
  ValueError : mg "ValueError" = none
/-- the law's promise -/
def spLaw (K : Kf) : Sp := fun vs H Q _ => ∃ (a : Addr) (ns : List Int), vs = [.ref a] ∧ SqL K H a (ns.map V.int) ∧ ns.length ≤ 63 ∧ ∀ H', Q (.bl true) H'
/-! ### promises -/
def RetU (xs : List V) (H : Hp) (Q : VK) : Prop := ∀ p H2, H p = none → Ex H H2 → H2 p = some (.tup xs) → Q (.ref p) H2
section
variable {K : Kf} {σ : L2.St} {H H' : Hp} {ta tb te tx : TE} {t u : TT} {x y z v : V} {r : R2}
theorem retV_mono {Q : VK} (k : RetV v H Q) (e : Ex H H') : RetV v H' Q := fun H2 e2 => k H2 (e.trans e2)
theorem retL_mono {xs : List V} {Q : VK} (k : RetL xs H Q) (e : Ex H H') : RetL xs H' Q := fun p H2 hp e2 h => k p H2 (fresh_back e hp) (e.trans e2) h
/-- isinstance of a built-in class -/
theorem ev_isi {a b : String} {r : Bool} (ha : Ev ta σ H x) (ht : ∀ H1, Ex H H1 → TyX K H1 x (.type a)) (hk : kitB a b = some r) : Ev (tCB (rIsi K) (tCons ta (tCons (tC (.ty b)) tNil))) σ H (.bl r) := fun H1 e Q q =>
  ha H1 e _ fun H2 e2 => ⟨x, .ty b, .type a, .type b, r, rfl, ClsV.ty b, ht H2 (e.trans e2), kit_ty hk, q H2 e2⟩
theorem et_of {b : Bool} (h : Ev te σ H (.bl b)) : EvT (tTest te) σ H b := et_test h
/-- a call: what it hands back is any value of which P -/
def EvP (te : TE) (σ : L2.St) (H : Hp) (P : V → Hp → Prop) : Prop := ∀ H1, Ex H H1 → ∀ Q : VK, (∀ v H2, Ex H1 H2 → P v H2 → Q v H2) → te σ H1 Q
end
end Wm
/-! ### the head's facts, with one Bool more -/
namespace Wm
open PySem PySem.Spec PyProof.Rows L2
abbrev AlM : Type := He.AlD × Bool
def obsM (n : Nat) (fa : List He.Fa) (fn : List He.DefD) (mo : Kf → Bool) (g : Addr → Option Obj) : AlM := (He.obsDG n fa fn g, mo (He.frG g (He.asD g n)))
def SaysM (fa : List He.Fa) (fn : List He.DefD) (mo : Kf → Bool) (K : Kf) : Prop := He.SaysD fa fn K ∧ mo K = true
def hookM (n : Nat) (fa : List He.Fa) (fn : List He.DefD) (mo : Kf → Bool) : PySem.W.Hook where
  α := AlM
  obs := fun z => obsM n fa fn mo z.heap.get?
  val := fun _ => (He.valD fn, true)
  says := fun _ hp => ∃ K : Kf, K.In hp ∧ SaysM fa fn mo K
  of := fun _ _ e => ⟨_, He.frG_in, (Prod.mk.inj e).1, (Prod.mk.inj e).2⟩
  keeps := fun _ _ _ ⟨K, hK, c⟩ z => ⟨K, PySem.W.Frag.In.keeps hK z, c⟩
theorem obsM_eq {n : Nat} {fa : List He.Fa} {fn : List He.DefD} {mo : Kf → Bool} {g : Addr → Option Obj} {z : Shared} (h : ∀ a, g a = z.heap.get? a) : obsM n fa fn mo g = (hookM n fa fn mo).obs z := by
  rw [show g = z.heap.get? from funext h]
  rfl
end Wm

/-! ### the words of the walk: «ex» an extension, «sq» a list that stands, «ev» an expression's value, «et» a test's answer, «side» what an operator asks -/
local macro_rules | `(tactic| walk_at "ex") => `(tactic| first
  | assumption
  | exact Evl.Ex.refl _
  | (refine Evl.Ex.trans ?_ (by assumption); walk_at "ex"))
namespace Wm
open PySem PySem.Spec PyProof.Rows L2 Evl
section
variable {K : Kf} {σ : L2.St} {H H' : Hp} {ta tb te tx : TE} {t u : TT} {x y z v : V} {r : R2} {a : Addr} {xs : List V}
theorem sq_ex (e : Ex H H') (h : H a = some (.lst xs)) : SqL K H' a xs := sq_of (e a _ h)
theorem st_ex (e : Ex H H') (h : H a = some (.tup xs)) : SqT K H' a xs := st_of (e a _ h)
theorem rv_isN : RV (fun x y H Q => y = .non ∧ Q (.bl (decide (x = .non))) H) x .non H (.bl (decide (x = .non))) := fun H1 _ _ q => ⟨rfl, q H1 (Ex.refl H1)⟩
theorem rv_notN : RV (fun x y H Q => y = .non ∧ Q (.bl (!decide (x = .non))) H) x .non H (.bl (!decide (x = .non))) := fun H1 _ _ q => ⟨rfl, q H1 (Ex.refl H1)⟩
theorem rv_cat {p q : Addr} {xs ys : List V} (hp : H p = some (.lst xs)) (hq : H q = some (.lst ys)) (hz : xs.length + ys.length ≤ 100000) {Q : VK} (k : ∀ l, H l = none → Q (.ref l) (upd H l (.lst (xs ++ ys)))) : rCat (.ref p) (.ref q) H Q :=
  ⟨p, q, xs, ys, rfl, rfl, hp, hq, sz_of hz, k⟩
/-- xs + [..]: a new list -/
theorem el_cat {p : Addr} {xs ys : List V} (ha : Ev ta σ H (.ref p)) (hp : H p = some (.lst xs)) (hb : EvL tb σ H ys) (hz : xs.length + ys.length ≤ 100000) : EvL (tOp rCat ta tb) σ H (xs ++ ys) := fun H1 e Q q =>
  ha H1 e _ fun H2 e2 => hb H2 (e.trans e2) _ fun b H3 _ e3 hb3 => rv_cat (((e.trans e2).trans e3) p _ hp) hb3 hz fun l hl => q l _ (fresh_back (e2.trans e3) hl) ((e2.trans e3).trans (Ex.new hl)) upd_same
/-- [..] + [..] -/
theorem el_catLL {xs ys : List V} (ha : EvL ta σ H xs) (hb : EvL tb σ H ys) (hz : xs.length + ys.length ≤ 100000) : EvL (tOp rCat ta tb) σ H (xs ++ ys) := fun H1 e Q q =>
  ha H1 e _ fun p H2 _ e2 hp => hb H2 (e.trans e2) _ fun b H3 _ e3 hb3 => rv_cat (e3 p _ hp) hb3 hz fun l hl => q l _ (fresh_back (e2.trans e3) hl) ((e2.trans e3).trans (Ex.new hl)) upd_same
theorem el_is {xs ys : List V} (h : EvL te σ H xs) (e : xs = ys) : EvL te σ H ys := e ▸ h
/-- a call that hands back a value, a list, a tuple; what is told of the arguments is told at the heap of the call -/
theorem ev_callV {sp : Sp} {E : XK} {ta : TA} {vs : List V} (h : EvA ta σ H vs) (hs : ∀ H1, Ex H H1 → ∀ Q : VK, RetV z H1 Q → ∀ E : XK, sp vs H1 Q E) : Ev (tCall sp [] E ta) σ H z := fun H1 e Q q =>
  h H1 e _ fun H2 e2 => by
    rw [List.append_nil]
    exact hs H2 (e.trans e2) Q (fun H3 e3 => q H3 (e2.trans e3)) E
theorem el_callL {sp : Sp} {E : XK} {ta : TA} {vs xs : List V} (h : EvA ta σ H vs) (hs : ∀ H1, Ex H H1 → ∀ Q : VK, RetL xs H1 Q → ∀ E : XK, sp vs H1 Q E) : EvL (tCall sp [] E ta) σ H xs := fun H1 e Q q =>
  h H1 e _ fun H2 e2 => by
    rw [List.append_nil]
    exact hs H2 (e.trans e2) Q (fun p H3 hp e3 h3 => q p H3 (fresh_back e2 hp) (e2.trans e3) h3) E
theorem eu_callU {sp : Sp} {E : XK} {ta : TA} {vs xs : List V} (h : EvA ta σ H vs) (hs : ∀ H1, Ex H H1 → ∀ Q : VK, RetU xs H1 Q → ∀ E : XK, sp vs H1 Q E) : EvU (tCall sp [] E ta) σ H xs := fun H1 e Q q =>
  h H1 e _ fun H2 e2 => by
    rw [List.append_nil]
    exact hs H2 (e.trans e2) Q (fun p H3 hp e3 h3 => q p H3 (fresh_back e2 hp) (e2.trans e3) h3) E
theorem ev_ixL {i : Int} {p : Addr} {xs : List V} (ha : Ev ta σ H (.ref p)) (hb : Ev tb σ H (.int i)) (h : SqL K H p xs) (hv : atI xs i = some v) : Ev (tOp (rIxL K) ta tb) σ H v := ev_op ha hb (rv_ixL h hv)
theorem ev_ixNL {i : Int} {xs : List V} (ha : EvL ta σ H xs) (hb : ∀ H1, Ex H H1 → Ev tb σ H1 (.int i)) (hv : atI xs i = some v) : Ev (tOp (rIxL K) ta tb) σ H v := ev_opL1 ha hb fun _ _ h _ => rv_ixL (sq_of h) hv
theorem atI_int {ns : List Int} {i : Int} (h0 : 0 ≤ i) (h1 : i < ns.length) : atI (ns.map V.int) i = some (.int (ns.getD i.toNat 0)) := by
  obtain ⟨j, rfl⟩ := Int.eq_ofNat_of_zero_le h0
  refine atI_nat ?_
  have hj : j < ns.length := by omega
  rw [List.getElem?_map, List.getElem?_eq_getElem hj, Int.toNat_natCast, List.getD_eq_getElem?_getD, List.getElem?_eq_getElem hj]
  rfl
theorem atI_get? {xs : List V} {i : Int} {j : Nat} (hj : i = (j : Int)) (h : xs[j]? = some v) : atI xs i = some v := by
  rw [hj]
  exact atI_nat h
/-- reading a slot of a list of ints -/
theorem map_at {ns : List Int} {i : Nat} {w : V} (h : (ns.map V.int)[i]? = some w) : ∃ z, w = .int z ∧ ns[i]? = some z ∧ i < ns.length ∧ z ∈ ns ∧ ns.getD i 0 = z := by
  rw [List.getElem?_map] at h
  cases e : ns[i]? with
  | none =>
    rw [e] at h
    cases h
  | some z =>
    rw [e] at h
    obtain ⟨hi, _⟩ := List.getElem?_eq_some_iff.mp e
    exact ⟨z, (Option.some.inj h).symm, rfl, hi, List.mem_of_getElem? e, by rw [List.getD_eq_getElem?_getD, e]; rfl⟩
end
/-! ### == of lists -/
def vD : V → PyData
  | .non => .none
  | .bl b => .bool b
  | .int i => .int i
  | .str s => .str s
  | _ => .none
def flat1 : V → Bool
  | .non => true
  | .bl _ => true
  | .int _ => true
  | .str _ => true
  | _ => false
theorem dpAll_flat {K : Kf} {H : Hp} : ∀ {xs : List V}, xs.all flat1 = true → DpAll K H xs (xs.map vD)
  | [], _ => .nil
  | x :: r, h => by
    rw [List.all_cons, Bool.and_eq_true] at h
    refine .cons ?_ (dpAll_flat h.2)
    cases x with
    | non => exact .non
    | bl b => exact .bl b
    | int i => exact .int i
    | str s => exact .str s
    | _ => exact Bool.noConfusion h.1
theorem all_int (ns : List Int) : (ns.map V.int).all flat1 = true := by
  rw [List.all_map, List.all_eq_true]
  intro z _
  rfl
end Wm
local macro_rules | `(tactic| walk_at "sq") => `(tactic| first
  | assumption
  | exact Evl.sq_of (by assumption)
  | (refine Evl.ex_l ?_ (by assumption); walk_at "ex")
  | (refine Wm.sq_ex ?_ (by assumption); walk_at "ex"))
local macro_rules | `(tactic| walk_at "side") => `(tactic| first
  | assumption
  | exact ⟨by decide, by decide⟩
  | exact ⟨by omega, by omega⟩
  | exact Or.inl ⟨by omega, by omega⟩
  | exact Or.inr ⟨by omega, by omega⟩
  | (show (0 : Int) < _; omega)
  | (show (0 : Int) < _; decide)
  | omega)
local macro_rules | `(tactic| walk_at "at") => `(tactic| first
  | assumption
  | exact L2.atI_nat (by assumption)
  | exact Wm.atI_int (by omega) (by omega)
  | exact Wm.atI_get? (by omega) (by assumption))
local macro_rules | `(tactic| walk_at "call") => `(tactic| fail "no call")
local macro_rules | `(tactic| walk_at "ev") => `(tactic| first
  | with_reducible exact Evl.ev_c
  | ((with_reducible refine' Evl.ev_var ?h); (case h => rfl))
  | ((with_reducible refine' Evl.ev_op ?ha ?hb Evl.rv_I0); (case ha => walk_at "ev"); (case hb => walk_at "ev"))
  | ((with_reducible refine' Evl.ev_op ?ha ?hb (Evl.rv_I ?hc)); (case ha => walk_at "ev"); (case hb => walk_at "ev"); (case hc => walk_at "side"))
  | ((with_reducible refine' Evl.ev_op ?ha ?hb (Evl.rv_eq ?hc)); (case ha => walk_at "ev"); (case hb => walk_at "ev"); (case hc => rfl))
  | ((with_reducible refine' Evl.ev_op ?ha ?hb (Evl.rv_ne ?hc)); (case ha => walk_at "ev"); (case hb => walk_at "ev"); (case hc => rfl))
  | ((with_reducible refine' Evl.ev_op ?ha Evl.ev_c Wm.rv_isN); (case ha => walk_at "ev"))
  | ((with_reducible refine' Evl.ev_op ?ha Evl.ev_c Wm.rv_notN); (case ha => walk_at "ev"))
  | ((with_reducible refine' Evl.ev_len ?ha ?hb); (case ha => walk_at "ev"); (case hb => walk_at "sq"))
  | ((with_reducible refine' Wm.ev_ixL ?ha ?hb ?hc ?hd); (case ha => walk_at "ev"); (case hb => walk_at "ev"); (case hc => walk_at "sq"); (case hd => walk_at "at"))
  | ((with_reducible refine' Evl.ev_un ?ha Evl.ru_neg); (case ha => walk_at "ev"))
  | ((with_reducible refine' Evl.ev_notV ?ha); (case ha => walk_at "ev"))
  | ((with_reducible refine' Evl.ev_andV ?ha ?hb); (case ha => walk_at "ev"); (case hb => (intro _; walk_at "ev")))
  | ((with_reducible refine' Evl.ev_orV ?ha ?hb); (case ha => walk_at "ev"); (case hb => (intro _; walk_at "ev")))
  | walk_at "call")
local macro_rules | `(tactic| walk_at "ea") => `(tactic| first
  | with_reducible exact Evl.ea_nil
  | ((with_reducible refine' Evl.ea_cons ?ha ?hb); (case ha => walk_at "ev"); (case hb => walk_at "ea")))
local macro_rules | `(tactic| walk_at "el") => `(tactic| first
  | ((with_reducible refine' Evl.el_lst ?ha ?hb); (case ha => walk_at "ea"); (case hb => first | decide | exact Nat.le_of_ble_eq_true rfl | simp))
  | ((with_reducible refine' Evl.el_list ?ha ?hb); (case ha => walk_at "ev"); (case hb => walk_at "sq"))
  | walk_at "call")
local macro_rules | `(tactic| walk_at "et") => `(tactic| first
  | ((with_reducible refine' Evl.et_test ?ha); (case ha => walk_at "ev"))
  | ((with_reducible refine' Evl.et_B ?ha); (case ha => walk_at "ev"))
  | ((with_reducible refine' Evl.et_not ?ha); (case ha => walk_at "et"))
  | ((with_reducible refine' Evl.et_and ?ha ?hb); (case ha => walk_at "et"); (case hb => (intro _; walk_at "et")))
  | ((with_reducible refine' Evl.et_or ?ha ?hb); (case ha => walk_at "et"); (case hb => (intro _; walk_at "et"))))
local macro_rules | `(tactic| walk_at "eu") => `(tactic| first
  | ((with_reducible refine' Evl.eu_tup ?ha ?hb); (case ha => walk_at "ea"); (case hb => first | decide | exact Nat.le_of_ble_eq_true rfl | simp)))

/-! ### dicts by ints, == of lists, comprehensions by what they give -/
namespace Wm
open PySem PySem.Spec PyProof.Rows L2 Evl
section
variable {K : Kf} {σ : L2.St} {H H' : Hp} {ta tb te tl tx td ty tv : TE} {t u : TT} {x y z v : V} {r : R2} {a d : Addr} {xs ys : List V} {D : Ends} {tz : TS}
theorem ev_dnotin {k : Int} {kvs : List (Key × V)} (ha : Ev ty σ H (.int k)) (hb : Ev td σ H (.ref d)) (hd : H d = some (.dK kvs)) : Ev (tDNotIn ty td) σ H (.bl (!(valV kvs (Sum.inl k : Key)).isSome)) := fun H1 e Q q =>
  ha H1 e _ fun H2 e2 => hb H2 (e.trans e2) _ fun H3 e3 => ⟨d, _, rfl, DGet.k (k := Sum.inl k) (((e.trans e2).trans e3) d _ hd), q H3 (e2.trans e3)⟩
theorem ev_din {k : Int} {kvs : List (Key × V)} (ha : Ev ty σ H (.int k)) (hb : Ev td σ H (.ref d)) (hd : H d = some (.dK kvs)) : Ev (tDIn ty td) σ H (.bl (valV kvs (Sum.inl k : Key)).isSome) := fun H1 e Q q =>
  ha H1 e _ fun H2 e2 => hb H2 (e.trans e2) _ fun H3 e3 => ⟨d, _, rfl, DGet.k (k := Sum.inl k) (((e.trans e2).trans e3) d _ hd), q H3 (e2.trans e3)⟩
theorem s_dput {k : Int} {kvs : List (Key × V)} (hv : Ev tv σ H v) (ho : Ev td σ H (.ref d)) (hi : Ev ty σ H (.int k)) (hd : H d = some (.dK kvs)) (hz : kvs.length < 100000) (q : ∀ H1, Ex H H1 → D.nx σ (upd H1 d (.dK (putK kvs (Sum.inl k) v)))) : sDPut td ty tv D σ H :=
  hv H (Ex.refl H) _ fun H1 e1 => ho H1 e1 _ fun H2 e2 => hi H2 (e1.trans e2) _ fun H3 e3 =>
    ⟨d, _, rfl, DPut.k (k := Sum.inl k) (((e1.trans e2).trans e3) d _ hd) (sz_lt hz), q H3 ((e1.trans e2).trans e3)⟩
theorem q_dput {k : Int} {kvs : List (Key × V)} (hv : Ev tv σ H v) (ho : Ev td σ H (.ref d)) (hi : Ev ty σ H (.int k)) (hd : H d = some (.dK kvs)) (hz : kvs.length < 100000) (q : ∀ H1, Ex H H1 → tz D σ (upd H1 d (.dK (putK kvs (Sum.inl k) v)))) : tSeq (sDPut td ty tv) tz D σ H :=
  s_dput (D := { D with nx := tz D }) hv ho hi hd hz q
/-- x = {} -/
theorem q_dnew {i : Nat} (q : ∀ d, H d = none → tz D (σ.set i (some (.ref d))) (upd H d (.dK []))) : tSeq (tAsg tDNewK (gName i)) tz D σ H := fun d hd => q d hd
/-! == -/
def fl0 : V → Bool
  | .non => true
  | .int _ => true
  | .str _ => true
  | _ => false
theorem eqv_fl0 {x y : V} (hx : fl0 x = true) (hy : fl0 y = true) : PyData.eqv (vD x) (vD y) = decide (x = y) := by
  cases x with
  | non => cases y with
    | non => simp [vD, PyData.eqv]
    | int j => simp [vD, PyData.eqv]
    | str s => simp [vD, PyData.eqv]
    | _ => exact Bool.noConfusion hy
  | int i => cases y with
    | non => simp [vD, PyData.eqv]
    | int j => by_cases e : i = j <;> simp [vD, PyData.eqv, e]
    | str s => simp [vD, PyData.eqv]
    | _ => exact Bool.noConfusion hy
  | str s => cases y with
    | non => simp [vD, PyData.eqv]
    | int j => simp [vD, PyData.eqv]
    | str u => by_cases e : s = u <;> simp [vD, PyData.eqv, e]
    | _ => exact Bool.noConfusion hy
  | _ => exact Bool.noConfusion hx
theorem eqvAll_fl0 : ∀ {xs ys : List V}, xs.all fl0 = true → ys.all fl0 = true → PyData.eqvAll (xs.map vD) (ys.map vD) = decide (xs = ys)
  | [], [], _, _ => by simp [PyData.eqvAll]
  | [], _ :: _, _, _ => by simp [PyData.eqvAll]
  | _ :: _, [], _, _ => by simp [PyData.eqvAll]
  | x :: xs, y :: ys, h, g => by
    rw [List.all_cons, Bool.and_eq_true] at h g
    show (PyData.eqv (vD x) (vD y) && PyData.eqvAll (xs.map vD) (ys.map vD)) = _
    rw [eqv_fl0 h.1 g.1, eqvAll_fl0 h.2 g.2]
    by_cases e : x = y <;> by_cases e2 : xs = ys <;> simp [e, e2]
theorem fl0_flat1 {x : V} (h : fl0 x = true) : flat1 x = true := by
  cases x <;> first | rfl | exact Bool.noConfusion h
theorem all_flat1 {xs : List V} (h : xs.all fl0 = true) : xs.all flat1 = true := List.all_eq_true.mpr fun x hx => fl0_flat1 (List.all_eq_true.mp h x hx)
def fl2 : V → Bool
  | .non => true
  | .bl _ => true
  | .int _ => true
  | _ => false
theorem canLayAll_fl2 : ∀ {xs : List V}, xs.all fl2 = true → PyData.canLayAll0 (xs.map vD) = true
  | [], _ => rfl
  | x :: xs, h => by
    rw [List.all_cons, Bool.and_eq_true] at h
    show (PyData.canLay0 (vD x) && PyData.canLayAll0 (xs.map vD)) = true
    rw [canLayAll_fl2 h.2, Bool.and_true]
    cases x <;> first | rfl | exact Bool.noConfusion h.1
theorem depthAll_fl2 : ∀ {xs : List V}, xs.all fl2 = true → PyData.depthAll (xs.map vD) ≤ 1
  | [], _ => by simp [PyData.depthAll]
  | x :: xs, h => by
    rw [List.all_cons, Bool.and_eq_true] at h
    have ih := depthAll_fl2 h.2
    have h1 : PyData.depth (vD x) ≤ 1 := by
      cases x <;> first | (simp [vD, PyData.depth]; done) | exact Bool.noConfusion h.1
    simp only [List.map_cons, PyData.depthAll]
    omega
theorem shaped_list {xs : List V} (h : xs.all fl2 = true) : SeqAt.shaped (.list (xs.map vD)) = true := by
  unfold SeqAt.shaped
  rw [Bool.and_eq_true, decide_eq_true_eq]
  refine ⟨canLayAll_fl2 h, ?_⟩
  have h1 := depthAll_fl2 h
  simp only [PyData.depth]
  omega
/-- None, ints -/
def fl3 : V → Bool
  | .non => true
  | .int _ => true
  | _ => false
theorem fl3_0 {xs : List V} (h : xs.all fl3 = true) : xs.all fl0 = true := List.all_eq_true.mpr fun x hx => by
  have q := List.all_eq_true.mp h x hx
  cases x <;> first | rfl | exact Bool.noConfusion q
theorem fl3_2 {xs : List V} (h : xs.all fl3 = true) : xs.all fl2 = true := List.all_eq_true.mpr fun x hx => by
  have q := List.all_eq_true.mp h x hx
  cases x <;> first | rfl | exact Bool.noConfusion q
theorem rv_eqL {p q : Addr} (hp : SqL K H p xs) (hq : SqL K H q ys) (fx : xs.all fl3 = true) (fy : ys.all fl3 = true) : RV (rEqD K) (.ref p) (.ref q) H (.bl (decide (xs = ys))) := fun H1 e Q k =>
  ⟨_, _, .lst (ex_l e hp) (dpAll_flat (all_flat1 (fl3_0 fx))), .lst (ex_l e hq) (dpAll_flat (all_flat1 (fl3_0 fy))), shaped_list (fl3_2 fx), shaped_list (fl3_2 fy), by
    rw [show PyData.eqv (.list (xs.map vD)) (.list (ys.map vD)) = decide (xs = ys) by rw [PyData.eqv]; exact eqvAll_fl0 (fl3_0 fx) (fl3_0 fy)]
    exact k H1 (Ex.refl H1)⟩
theorem rv_neL {p q : Addr} (hp : SqL K H p xs) (hq : SqL K H q ys) (fx : xs.all fl3 = true) (fy : ys.all fl3 = true) : RV (rNeD K) (.ref p) (.ref q) H (.bl (!decide (xs = ys))) := fun H1 e Q k =>
  ⟨_, _, .lst (ex_l e hp) (dpAll_flat (all_flat1 (fl3_0 fx))), .lst (ex_l e hq) (dpAll_flat (all_flat1 (fl3_0 fy))), shaped_list (fl3_2 fx), shaped_list (fl3_2 fy), by
    rw [show PyData.eqv (.list (xs.map vD)) (.list (ys.map vD)) = decide (xs = ys) by rw [PyData.eqv]; exact eqvAll_fl0 (fl3_0 fx) (fl3_0 fy)]
    exact k H1 (Ex.refl H1)⟩
theorem ev_eqL {p q : Addr} (ha : Ev ta σ H (.ref p)) (hb : Ev tb σ H (.ref q)) (hp : SqL K H p xs) (hq : SqL K H q ys) (fx : xs.all fl3 = true) (fy : ys.all fl3 = true) : Ev (tOp (rEqD K) ta tb) σ H (.bl (decide (xs = ys))) := ev_op ha hb (rv_eqL hp hq fx fy)
theorem ev_neL {p q : Addr} (ha : Ev ta σ H (.ref p)) (hb : Ev tb σ H (.ref q)) (hp : SqL K H p xs) (hq : SqL K H q ys) (fx : xs.all fl3 = true) (fy : ys.all fl3 = true) : Ev (tOp (rNeD K) ta tb) σ H (.bl (!decide (xs = ys))) := ev_op ha hb (rv_neL hp hq fx fy)
/-- against a list that is made on the way -/
theorem ev_eqLN {p : Addr} (ha : Ev ta σ H (.ref p)) (hb : EvL tb σ H ys) (hp : SqL K H p xs) (fx : xs.all fl3 = true) (fy : ys.all fl3 = true) : Ev (tOp (rEqD K) ta tb) σ H (.bl (decide (xs = ys))) :=
  ev_opL ha hb fun _ _ h e => rv_eqL (ex_l e hp) (sq_of h) fx fy
theorem ev_neLN {p : Addr} (ha : Ev ta σ H (.ref p)) (hb : EvL tb σ H ys) (hp : SqL K H p xs) (fx : xs.all fl3 = true) (fy : ys.all fl3 = true) : Ev (tOp (rNeD K) ta tb) σ H (.bl (!decide (xs = ys))) :=
  ev_opL ha hb fun _ _ h e => rv_neL (ex_l e hp) (sq_of h) fx fy
theorem ev_neNN (ha : EvL ta σ H xs) (hb : EvL tb σ H ys) (fx : xs.all fl3 = true) (fy : ys.all fl3 = true) : Ev (tOp (rNeD K) ta tb) σ H (.bl (!decide (xs = ys))) :=
  ev_opLL ha hb fun _ _ _ h g _ => rv_neL (sq_of h) (sq_of g) fx fy
theorem ev_eqNL {q : Addr} (ha : EvL ta σ H xs) (hb : Ev tb σ H (.ref q)) (hq : SqL K H q ys) (fx : xs.all fl3 = true) (fy : ys.all fl3 = true) : Ev (tOp (rEqD K) ta tb) σ H (.bl (decide (xs = ys))) :=
  ev_opL1 ha (fun _ e => hb.mono e) fun _ _ h e => rv_eqL (sq_of h) (ex_l e hq) fx fy
theorem ev_neNL {q : Addr} (ha : EvL ta σ H xs) (hb : Ev tb σ H (.ref q)) (hq : SqL K H q ys) (fx : xs.all fl3 = true) (fy : ys.all fl3 = true) : Ev (tOp (rNeD K) ta tb) σ H (.bl (!decide (xs = ys))) :=
  ev_opL1 ha (fun _ e => hb.mono e) fun _ _ h e => rv_neL (sq_of h) (ex_l e hq) fx fy
/-! comprehensions -/
theorem el_lcR2 {ta : TA} {j : Nat} {vs : List Nat} {lo n : Int} (f : Nat → Bool) (g : Nat → V) (h : EvA ta σ H [.int lo, .int n]) (hn : 0 ≤ lo ∧ lo ≤ 40000 ∧ -40000 ≤ n ∧ n ≤ 40000) (hw : ∀ x, wipe ((wipe σ vs).set j (some x)) vs = wipe σ vs)
    (ht : ∀ (i : Nat) H1, Ex H H1 → lo + (i : Int) < n → EvT t ((wipe σ vs).set j (some (.int (lo + (i : Int))))) H1 (f i)) (he : ∀ (i : Nat) H1, Ex H H1 → lo + (i : Int) < n → f i = true → Ev te ((wipe σ vs).set j (some (.int (lo + (i : Int))))) H1 (g i)) :
    EvL (tLc (iRng2 ta) (gName j) t te vs) σ H (given (n - lo).toNat f g) := fun H0 e Q q => h H0 e _ fun H1 e1 => ⟨lo, n, rfl, ⟨by omega, by omega, by omega, by omega⟩, fun Dl hD =>
  lc_range (lo := lo) (n := (n - lo).toNat) (Cw H1 f g Dl) ⟨hD, Ex.new hD, upd_same⟩ (fun i H' hi p => ⟨hw _, cw_turn p (by omega) (ht i H1 (e.trans e1) (by omega)) (fun hf => he i H1 (e.trans e1) (by omega) hf)⟩) (fun H' p => q Dl H' (fresh_back e1 p.1) (e1.trans p.2.1) p.2.2)⟩
theorem given_list {p : V → Bool} {g : V → V} : ∀ xs : List V, given xs.length (fun i => p (xs.getD i .non)) (fun i => g (xs.getD i .non)) = (xs.filter p).map g := by
  intro xs
  have key : ∀ n, n ≤ xs.length → given n (fun i => p (xs.getD i .non)) (fun i => g (xs.getD i .non)) = ((xs.take n).filter p).map g := by
    intro n
    induction n with
    | zero => intro _; rfl
    | succ n ih =>
      intro hn
      have hlt : n < xs.length := hn
      have e : xs.take (n + 1) = xs.take n ++ [xs.getD n .non] := by
        rw [List.take_add_one, List.getElem?_eq_getElem hlt, List.getD_eq_getElem?_getD, List.getElem?_eq_getElem hlt]
        rfl
      rw [e, List.filter_append, List.map_append]
      cases hf : p (xs.getD n .non) with
      | true =>
        rw [given_yes hf, ih (Nat.le_of_lt hlt), List.filter_cons, if_pos hf]
        rfl
      | false =>
        rw [given_no hf, ih (Nat.le_of_lt hlt), List.filter_cons, if_neg (by rw [hf]; decide)]
        rw [List.filter_nil, List.map_nil, List.append_nil]
  rw [key xs.length (Nat.le_refl _), List.take_length]
theorem getD_of {xs : List V} {i : Nat} (h : xs[i]? = some x) : xs.getD i .non = x := by rw [List.getD_eq_getElem?_getD, h]; rfl
theorem el_lcX {vs : List Nat} {j : Nat} (p : V → Bool) (g : V → V) (h : Ev tl σ H (.ref a)) (hx : SqL K H a xs) (hz : xs.length ≤ 40000) (hw : ∀ x, wipe ((wipe σ vs).set j (some x)) vs = wipe σ vs)
    (ht : ∀ x H1, Ex H H1 → x ∈ xs → EvT t ((wipe σ vs).set j (some x)) H1 (p x)) (he : ∀ x H1, Ex H H1 → x ∈ xs → p x = true → Ev te ((wipe σ vs).set j (some x)) H1 (g x)) :
    EvL (tLc (iList K tl) (gName j) t te vs) σ H ((xs.filter p).map g) := by
  rw [← given_list]
  refine el_lcL _ _ h hx hz hw (fun i x H1 e hi => ?_) (fun i x H1 e hi hp => ?_)
  · rw [getD_of hi]
    exact ht x H1 e (List.mem_of_getElem? hi)
  · rw [getD_of hi] at hp ⊢
    exact he x H1 e (List.mem_of_getElem? hi) hp
theorem el_lcXN {vs : List Nat} {j : Nat} (p : V → Bool) (g : V → V) (h : EvL tl σ H xs) (hz : xs.length ≤ 40000) (hw : ∀ x, wipe ((wipe σ vs).set j (some x)) vs = wipe σ vs)
    (ht : ∀ x H1, Ex H H1 → x ∈ xs → EvT t ((wipe σ vs).set j (some x)) H1 (p x)) (he : ∀ x H1, Ex H H1 → x ∈ xs → p x = true → Ev te ((wipe σ vs).set j (some x)) H1 (g x)) :
    EvL (tLc (iList K tl) (gName j) t te vs) σ H ((xs.filter p).map g) := by
  rw [← given_list]
  refine el_lcNL _ _ h hz hw (fun i x H1 e hi => ?_) (fun i x H1 e hi hp => ?_)
  · rw [getD_of hi]
    exact ht x H1 e (List.mem_of_getElem? hi)
  · rw [getD_of hi] at hp ⊢
    exact he x H1 e (List.mem_of_getElem? hi) hp
theorem et_yes : EvT tYes σ H true := fun H1 _ _ q => q H1 (Ex.refl H1)
theorem given_all {n : Nat} {f : Nat → Bool} {g : Nat → V} (h : ∀ i, f i = true) : given n f g = (List.range n).map g := by
  unfold given
  rw [List.filter_eq_self.mpr fun i _ => h i]
end
/-- lists of naturals as Python's -/
def vn (ws : List Nat) : List V := ws.map fun (w : Nat) => V.int (w : Int)
theorem vn_len (ws : List Nat) : (vn ws).length = ws.length := List.length_map ..
theorem vn_ints (ws : List Nat) : vn ws = (ws.map Int.ofNat).map V.int := by
  unfold vn
  rw [List.map_map]
  rfl
theorem vn_at {ws : List Nat} {i : Nat} {x : V} (h : (vn ws)[i]? = some x) : ∃ w : Nat, x = .int (w : Int) ∧ ws[i]? = some w ∧ i < ws.length ∧ w ∈ ws := by
  unfold vn at h
  rw [List.getElem?_map] at h
  cases e : ws[i]? with
  | none =>
    rw [e] at h
    cases h
  | some w =>
    rw [e] at h
    obtain ⟨hi, _⟩ := List.getElem?_eq_some_iff.mp e
    exact ⟨w, (Option.some.inj h).symm, rfl, hi, List.mem_of_getElem? e⟩
theorem vn_get {ws : List Nat} {i w : Nat} (h : ws[i]? = some w) : (vn ws)[i]? = some (.int (w : Int)) := by
  unfold vn
  rw [List.getElem?_map, h]
  rfl
theorem vn_fl3 (ws : List Nat) : (vn ws).all fl3 = true := by
  unfold vn
  rw [List.all_map, List.all_eq_true]
  intro z _
  rfl
theorem vn_snoc (ws : List Nat) (w : Nat) : vn (ws ++ [w]) = vn ws ++ [.int (w : Int)] := by unfold vn; rw [List.map_append]; rfl
theorem vn_inj : ∀ {ws us : List Nat}, vn ws = vn us → ws = us
  | [], [], _ => rfl
  | [], _ :: _, h => by cases h
  | _ :: _, [], h => by cases h
  | w :: ws, u :: us, h => by
    have h1 := List.cons.inj h
    have e : (w : Int) = (u : Int) := V.int.inj h1.1
    rw [Int.ofNat.inj e, vn_inj h1.2]
theorem ints_fl3 (ns : List Int) : (ns.map V.int).all fl3 = true := by
  rw [List.all_map, List.all_eq_true]
  intro z _
  rfl
/-- a place or None -/
def vo : Option Nat → V
  | none => .non
  | some p => .int (p : Int)
def vos (l : List (Option Nat)) : List V := l.map vo
theorem vos_fl3 (l : List (Option Nat)) : (vos l).all fl3 = true := by
  unfold vos
  rw [List.all_map, List.all_eq_true]
  intro z _
  cases z <;> rfl
theorem vos_len (l : List (Option Nat)) : (vos l).length = l.length := List.length_map ..
theorem vos_snoc (l : List (Option Nat)) (o : Option Nat) : vos (l ++ [o]) = vos l ++ [vo o] := by unfold vos; rw [List.map_append]; rfl
theorem vos_at {l : List (Option Nat)} {i : Nat} {x : V} (h : (vos l)[i]? = some x) : ∃ o, x = vo o ∧ l[i]? = some o ∧ i < l.length := by
  unfold vos at h
  rw [List.getElem?_map] at h
  cases e : l[i]? with
  | none =>
    rw [e] at h
    cases h
  | some w =>
    rw [e] at h
    obtain ⟨hi, _⟩ := List.getElem?_eq_some_iff.mp e
    exact ⟨w, (Option.some.inj h).symm, rfl, hi⟩
theorem vo_inj {a b : Option Nat} (h : vo a = vo b) : a = b := by
  cases a with
  | none => cases b with
    | none => rfl
    | some q => cases h
  | some p => cases b with
    | none => cases h
    | some q => rw [Int.ofNat.inj (V.int.inj h)]
theorem vos_inj : ∀ {l m : List (Option Nat)}, vos l = vos m → l = m
  | [], [], _ => rfl
  | [], _ :: _, h => by cases h
  | _ :: _, [], h => by cases h
  | w :: ws, u :: us, h => by
    have h1 := List.cons.inj h
    rw [vo_inj h1.1, vos_inj h1.2]
theorem vos_some (ws : List Nat) : vos (ws.map some) = vn ws := by
  unfold vos vn
  rw [List.map_map]
  rfl
theorem take_succ_of {α : Type} {l : List α} {i : Nat} {x : α} (h : l[i]? = some x) : l.take (i + 1) = l.take i ++ [x] := by
  rw [List.take_add_one, h]
  rfl
end Wm

/-! ### a dict of ints that are taken -/
namespace Wm
open PySem PySem.Spec PyProof.Rows L2 Evl
def tkR (l : List Nat) : List (Key × V) := l.map fun (p : Nat) => ((Sum.inl (p : Int) : Key), V.bl true)
theorem valV_tkR (l : List Nat) (p : Nat) : (valV (tkR l) (Sum.inl (p : Int) : Key)).isSome = decide (p ∈ l) := by
  rw [← valV_any]
  unfold tkR
  rw [List.any_map, Bool.eq_iff_iff, List.any_eq_true, decide_eq_true_eq]
  constructor
  · rintro ⟨q, hq, e⟩
    have e2 : q = p := Int.ofNat.inj (Sum.inl.inj (of_decide_eq_true e))
    rw [← e2]
    exact hq
  · intro h
    exact ⟨p, h, decide_eq_true rfl⟩
theorem putK_tkR {l : List Nat} {p : Nat} (h : p ∉ l) : putK (tkR l) (Sum.inl (p : Int) : Key) (.bl true) = tkR (l ++ [p]) := by
  rw [putK_new]
  · unfold tkR
    rw [List.map_append]
    rfl
  · have e := valV_tkR l p
    rw [decide_eq_false h] at e
    exact Option.isSome_eq_false_iff.mp e |> Option.isNone_iff_eq_none.mp
theorem tkR_len (l : List Nat) : (tkR l).length = l.length := List.length_map ..
end Wm

/-! ### slices -/
namespace Wm
open PySem PySem.Spec PyProof.Rows L2 Evl
/-- slices of lists of naturals -/
theorem cutV_from {l : List Nat} {k : Nat} (h : k ≤ l.length) : cutV (vn l) (some (k : Int)) none = vn (l.drop k) := by
  unfold cutV
  rw [HT.sIx_nat, HT.sIx_none, vn_len, Nat.min_eq_left h]
  unfold vn
  rw [List.map_drop, List.take_of_length_le (by rw [List.length_drop, List.length_map]; omega)]
theorem cutV_to {l : List Nat} {k : Nat} (h : k ≤ l.length) : cutV (vn l) none (some (k : Int)) = vn (l.take k) := by
  unfold cutV
  rw [HT.sIx_nat, HT.sIx_none, vn_len, Nat.min_eq_left h, List.drop_zero, Nat.sub_zero]
  unfold vn
  rw [List.map_take]
end Wm

/-! ### conditional stores, pairs -/
namespace Wm
open PySem PySem.Spec PyProof.Rows L2 Evl
section
variable {K : Kf} {σ : L2.St} {H H' : Hp} {ta tb te tl tx : TE} {t u : TT} {x y z v : V} {D : Ends} {tz : TS}
/-- if c: x = e, told by a property of what x holds behind it -/
theorem q_ifP {b : Bool} {i : Nat} (P : V → Prop) (h : EvT t σ H b) (h1 : b = true → ∃ v, Ev te σ H v ∧ P v) (h2 : b = false → ∃ v, σ.set i (some v) = σ ∧ P v) (k : ∀ v H1, P v → Ex H H1 → tz D (σ.set i (some v)) H1) : tSeq (tIfS t (tAsg te (gName i)) tNext) tz D σ H :=
  q_when h (fun hb H1 e1 => by
    obtain ⟨v, hv, pv⟩ := h1 hb
    exact s_asg (D := { D with nx := tz D }) (hv.mono e1) fun H2 e2 => k v H2 pv (e1.trans e2)) (fun hb H1 e1 => by
    obtain ⟨v, hv, pv⟩ := h2 hb
    have g := k v H1 pv e1
    rw [hv] at g
    exact g)
/-- a, b = a pair that is made on the way -/
def EvPair (te : TE) (σ : L2.St) (H : Hp) (P : V → V → Hp → Prop) : Prop := ∀ H1, Ex H H1 → ∀ Q : VK, (∀ p x y H2, Ex H1 H2 → H2 p = some (.tup [x, y]) → P x y H2 → Q (.ref p) H2) → te σ H1 Q
theorem q_asg2 {i j : Nat} {P : V → V → Hp → Prop} (h : EvPair te σ H P) (k : ∀ x y H1, Ex H H1 → P x y H1 → tz D ((σ.set i (some x)).set j (some y)) H1) : tSeq (tAsg te (gTup K 2 (gCons (gName i) (gCons (gName j) gNil)))) tz D σ H :=
  h H (Ex.refl H) _ fun p x y H1 e hp hP => ⟨p, [x, y], rfl, st_of hp, rfl, x, [y], rfl, y, [], rfl, rfl, k x y H1 e hP⟩
theorem ep_call {sp : Sp} {E : XK} {ta : TA} {vs : List V} {P : V → V → Hp → Prop} (h : EvA ta σ H vs) (hs : ∀ H1, Ex H H1 → ∀ Q : VK, (∀ p x y H2, Ex H1 H2 → H2 p = some (.tup [x, y]) → P x y H2 → Q (.ref p) H2) → ∀ E : XK, sp vs H1 Q E) : EvPair (tCall sp [] E ta) σ H P := fun H1 e Q q =>
  h H1 e _ fun H2 e2 => by
    rw [List.append_nil]
    exact hs H2 (e.trans e2) Q (fun p x y H3 e3 hp hP => q p x y H3 (e2.trans e3) hp hP) E
theorem mod_nat (c : Int) {m : Int} {n : Nat} (h : 0 < m) (hm : m ≤ n) : ∃ w : Nat, c % m = (w : Int) ∧ w < n := by
  have h1 := Int.emod_nonneg c (show m ≠ 0 by omega)
  have h2 := Int.emod_lt_of_pos c h
  exact ⟨(c % m).toNat, by omega, by omega⟩
theorem tuple_ret {xs : List V} {Q : VK} (h : EvU te σ H xs) (k : ∀ p H1, H p = none → Ex H H1 → H1 p = some (.tup xs) → Q (.ref p) H1) : tRet te { nx := D.nx, rt := Q } σ H := s_retU (D := { nx := D.nx, rt := Q }) h k
end
end Wm

/-! ### lists of lists -/
namespace Wm
open PySem PySem.Spec PyProof.Rows L2 Evl
def MAt (mk : List V → HO) (H : Hp) (ps : List Addr) (rs : List (List V)) : Prop := Paired (fun p r => H p = some (mk r)) ps rs
abbrev LsAt : Hp → List Addr → List (List V) → Prop := MAt HO.lst
theorem MAt.ex {mk : List V → HO} {H H' : Hp} (e : Ex H H') : ∀ {ps : List Addr} {rs : List (List V)}, MAt mk H ps rs → MAt mk H' ps rs
  | _, _, .nil => .nil
  | _, _, .cons h t => .cons (e _ _ h) (MAt.ex e t)
theorem MAt.app {mk : List V → HO} {H : Hp} : ∀ {ps qs : List Addr} {rs ts : List (List V)}, MAt mk H ps rs → MAt mk H qs ts → MAt mk H (ps ++ qs) (rs ++ ts)
  | _, _, _, _, .nil, h => h
  | _, _, _, _, .cons h t, g => .cons h (MAt.app t g)
theorem MAt.len {mk : List V → HO} {H : Hp} {ps : List Addr} {rs : List (List V)} (h : MAt mk H ps rs) : ps.length = rs.length := Paired.length h
theorem MAt.get {mk : List V → HO} {H : Hp} : ∀ {ps : List Addr} {rs : List (List V)} {i : Nat} {p : Addr}, MAt mk H ps rs → ps[i]? = some p → ∃ r, rs[i]? = some r ∧ H p = some (mk r)
  | _, _, _, _, .nil, h => by cases h
  | _, _, 0, _, .cons h t, e => by
    cases e
    exact ⟨_, rfl, h⟩
  | _, _, i + 1, _, .cons _ t, e => MAt.get (i := i) t e
/-- a new list of new objects; of new lists -/
def EvM (mk : List V → HO) (te : TE) (σ : L2.St) (H : Hp) (rs : List (List V)) : Prop := ∀ H1, Ex H H1 → ∀ Q : VK, (∀ p ps H2, H1 p = none → Ex H1 H2 → H2 p = some (.lst (ps.map V.ref)) → MAt mk H2 ps rs → Q (.ref p) H2) → te σ H1 Q
def EvX (mk : List V → HO) (te : TE) (σ : L2.St) (H : Hp) (xs : List V) : Prop := ∀ H1, Ex H H1 → ∀ Q : VK, (∀ p H2, H1 p = none → Ex H1 H2 → H2 p = some (mk xs) → Q (.ref p) H2) → te σ H1 Q
abbrev EvR := EvM HO.lst
section
variable {K : Kf} {σ : L2.St} {H H' : Hp} {ta tb te tl tx : TE} {t u : TT} {x y z v : V}
theorem er_lcR1 {mk : List V → HO} {ta : TA} {j : Nat} {vs : List Nat} {n : Int} (g : Nat → List V) (h : EvA ta σ H [.int n]) (hn : 0 ≤ n ∧ n ≤ 40000) (hw : ∀ x, wipe ((wipe σ vs).set j (some x)) vs = wipe σ vs)
    (he : ∀ (i : Nat) H1, Ex H H1 → (i : Int) < n → EvX mk te ((wipe σ vs).set j (some (.int (i : Int)))) H1 (g i)) : EvM mk (tLc (iRng1 ta) (gName j) tYes te vs) σ H ((List.range n.toNat).map g) := fun H0 e Q q => h H0 e _ fun H1 e1 => ⟨n, rfl, by omega, by omega, fun Dl hD =>
  lc_range (lo := 0) (n := n.toNat) (fun i H' => Ex H1 H' ∧ ∃ ps : List Addr, H' Dl = some (.lst (ps.map V.ref)) ∧ MAt mk H' ps ((List.range i).map g) ∧ Dl ∉ ps) ⟨Ex.new hD, [], upd_same, .nil, List.not_mem_nil⟩
    (fun i H' hi ⟨eH, ps, hl, hp, hn2⟩ => by
      have e0 : (0 : Int) + (i : Int) = (i : Int) := Int.zero_add _
      refine ⟨hw _, ?_⟩
      show te _ H' _
      have q2 := he i H' ((e.trans e1).trans eH) (by omega)
      rw [← e0] at q2
      refine q2 H' (Ex.refl _) _ fun p H2 np e2 h2 => ?_
      have hl2 := e2 Dl _ hl
      have npD : p ≠ Dl := fun z => by
        rw [z] at np
        rw [np] at hl
        cases hl
      refine ⟨_, hl2, ?_, (eH.trans e2).mut hD, ps ++ [p], ?_, ?_, ?_⟩
      · have := hp.len
        rw [List.length_map, List.length_range] at this
        rw [List.length_map, this]
        exact sz_lt (by omega)
      · rw [upd_same, List.map_append]
        rfl
      · rw [List.range_succ, List.map_append]
        have k1 : ∀ {qs : List Addr} {rs : List (List V)}, Dl ∉ qs → MAt mk H2 qs rs → MAt mk (upd H2 Dl (.lst (ps.map V.ref ++ [.ref p]))) qs rs := by
          intro qs rs hd h
          induction h with
          | nil => exact .nil
          | cons a b ih =>
            rw [List.mem_cons, not_or] at hd
            exact .cons (by rw [upd_ne (Ne.symm hd.1)]; exact a) (ih hd.2)
        exact (k1 hn2 (hp.ex e2)).app (.cons (by rw [upd_ne npD]; exact h2) .nil)
      · rw [List.mem_append, List.mem_singleton, not_or]
        exact ⟨hn2, Ne.symm npD⟩)
    (fun H' ⟨eH, ps, hl, hp, _⟩ => q Dl ps H' (fresh_back e1 hD) (e1.trans eH) hl hp)⟩
theorem er_cat {p : Addr} {ps : List Addr} {rs ts : List (List V)} (ha : Ev ta σ H (.ref p)) (hp : H p = some (.lst (ps.map V.ref))) (hl : LsAt H ps rs) (hb : EvR tb σ H ts) (hz : rs.length + ts.length ≤ 100000) : EvR (tOp rCat ta tb) σ H (rs ++ ts) := fun H1 e Q q =>
  ha H1 e _ fun H2 e2 => hb H2 (e.trans e2) _ fun b qs H3 _ e3 hb3 hq => rv_cat (((e.trans e2).trans e3) p _ hp) hb3 (by rw [List.length_map, List.length_map, hl.len, hq.len]; exact hz) fun l hl2 =>
    q l (ps ++ qs) _ (fresh_back (e2.trans e3) hl2) ((e2.trans e3).trans (Ex.new hl2)) (by rw [upd_same, List.map_append]) (((hl.ex ((e.trans e2).trans e3)).app hq).ex (Ex.new hl2))
theorem s_asgR {i : Nat} {rs : List (List V)} {D : Ends} (h : EvR te σ H rs) (k : ∀ p ps H1, H p = none → Ex H H1 → H1 p = some (.lst (ps.map V.ref)) → LsAt H1 ps rs → D.nx (σ.set i (some (.ref p))) H1) : tAsg te (gName i) D σ H := h H (Ex.refl H) _ fun p ps H1 hp e h1 h2 => k p ps H1 hp e h1 h2
theorem q_asgR {i : Nat} {rs : List (List V)} {D : Ends} {tz : TS} (h : EvR te σ H rs) (k : ∀ p ps H1, H p = none → Ex H H1 → H1 p = some (.lst (ps.map V.ref)) → LsAt H1 ps rs → tz D (σ.set i (some (.ref p))) H1) : tSeq (tAsg te (gName i)) tz D σ H := s_asgR (D := { D with nx := tz D }) h k
/-- [[]] -/
theorem er_nil1 : EvR (tLst (tCons (tLst tNil) tNil)) σ H [[]] := fun H1 e Q q => ⟨Nat.zero_le _, fun p hp => ⟨sz_of (show 1 ≤ 100000 by decide), fun l hl => by
  have npl : p ≠ l := fun z => by
    rw [z, upd_same] at hl
    cases hl
  refine q l [p] _ (fresh_back (Ex.new hp) hl) ((Ex.new hp).trans (Ex.new hl)) upd_same (.cons ?_ .nil)
  rw [upd_ne npl, upd_same]⟩⟩
/-- how many turns give -/
theorem given_count {α : Type} (f : α → Bool) (d : α) (g : Nat → V) (l : List α) : (given l.length (fun i => f (l.getD i d)) g).length = (l.filter f).length := by
  unfold given
  rw [List.length_map]
  have key : ∀ n, n ≤ l.length → ((List.range n).filter fun i => f (l.getD i d)).length = ((l.take n).filter f).length := by
    intro n
    induction n with
    | zero => intro _; rfl
    | succ n ih =>
      intro hn
      have hlt : n < l.length := hn
      have e : l.take (n + 1) = l.take n ++ [l.getD n d] := by
        rw [List.take_add_one, List.getElem?_eq_getElem hlt, List.getD_eq_getElem?_getD, List.getElem?_eq_getElem hlt]
        rfl
      rw [e, List.range_succ, List.filter_append, List.filter_append, List.length_append, List.length_append, ih (Nat.le_of_lt hlt)]
      congr 1
      cases hf : f (l.getD n d) <;> simp only [List.filter_cons, List.filter_nil, hf, if_true, Bool.false_eq_true, if_false, List.length_cons, List.length_nil]
  rw [key l.length (Nat.le_refl _), List.take_length]
end
theorem inV_vos (l : List (Option Nat)) : inV .non (vos l) = decide (none ∈ l) := by
  unfold inV vos
  rw [List.any_map, Bool.eq_iff_iff, List.any_eq_true, decide_eq_true_eq]
  constructor
  · rintro ⟨o, ho, e⟩
    cases o with
    | none => exact ho
    | some p => exact Bool.noConfusion e
  · intro h
    exact ⟨none, h, rfl⟩
theorem vos_flat (l : List (Option Nat)) : (vos l).all flatV = true := by
  unfold vos
  rw [List.all_map, List.all_eq_true]
  intro z _
  cases z <;> rfl
end Wm

/-! ### lists of which only a property is told; sorted pairs -/
namespace Wm
open PySem PySem.Spec PyProof.Rows L2 Evl
def EvLP (te : TE) (σ : L2.St) (H : Hp) (P : List V → Prop) : Prop := ∀ H1, Ex H H1 → ∀ Q : VK, (∀ p xs H2, H1 p = none → Ex H1 H2 → H2 p = some (.lst xs) → P xs → Q (.ref p) H2) → te σ H1 Q
section
variable {X : Cx}
theorem cr_max2 (hc : X.calm = true) : CallR X (.builtin "max") rMax2 := call_max2 hc
def rMin2 : List V → Hp → VK → Prop := fun xs H Q => ∃ i j, xs = [.int i, .int j] ∧ Q (.int (if j < i then j else i)) H
theorem cr_min2 (hc : X.calm = true) : CallR X (.builtin "min") rMin2 := call_min2 hc
end
section
variable {K : Kf} {σ : L2.St} {H H' : Hp} {ta tb te tl tx : TE} {t u : TT} {x y z v : V} {D : Ends} {tz tu : TS}
theorem ev_min2 {i j : Int} (ha : Ev ta σ H (.int i)) (hb : Ev tb σ H (.int j)) : Ev (tCB rMin2 (tCons ta (tCons tb tNil))) σ H (.int (if j < i then j else i)) := fun H1 e Q q =>
  ha H1 e _ fun H2 e2 => hb H2 (e.trans e2) _ fun H3 e3 => ⟨i, j, rfl, q H3 (e2.trans e3)⟩
theorem s_asgLP {i : Nat} {P : List V → Prop} (h : EvLP te σ H P) (k : ∀ p xs H1, H p = none → Ex H H1 → H1 p = some (.lst xs) → P xs → D.nx (σ.set i (some (.ref p))) H1) : tAsg te (gName i) D σ H := h H (Ex.refl H) _ k
theorem q_asgLP {i : Nat} {P : List V → Prop} (h : EvLP te σ H P) (k : ∀ p xs H1, H p = none → Ex H H1 → H1 p = some (.lst xs) → P xs → tz D (σ.set i (some (.ref p))) H1) : tSeq (tAsg te (gName i)) tz D σ H := s_asgLP (D := { D with nx := tz D }) h k
theorem s_retLP {P : List V → Prop} (h : EvLP te σ H P) (k : ∀ p xs H1, H p = none → Ex H H1 → H1 p = some (.lst xs) → P xs → D.rt (.ref p) H1) : tRet te D σ H := h H (Ex.refl H) _ k
theorem lp_of {P : List V → Prop} {xs : List V} (h : EvL te σ H xs) (hp : P xs) : EvLP te σ H P := fun H1 e Q q => h H1 e Q fun p H2 np e2 h2 => q p xs H2 np e2 h2 hp
theorem lp_imp {P P' : List V → Prop} (h : EvLP te σ H P) (hp : ∀ xs, P xs → P' xs) : EvLP te σ H P' := fun H1 e Q q => h H1 e Q fun p xs H2 np e2 h2 h3 => q p xs H2 np e2 h2 (hp xs h3)
theorem lp_call {sp : Sp} {E : XK} {ta : TA} {vs : List V} {P : List V → Prop} (h : EvA ta σ H vs) (hs : ∀ H1, Ex H H1 → ∀ Q : VK, (∀ xs, P xs → RetL xs H1 Q) → ∀ E : XK, sp vs H1 Q E) : EvLP (tCall sp [] E ta) σ H P := fun H1 e Q q =>
  h H1 e _ fun H2 e2 => by
    rw [List.append_nil]
    exact hs H2 (e.trans e2) Q (fun xs hP p H3 hp e3 h3 => q p xs H3 (fresh_back e2 hp) (e2.trans e3) h3 hP) E
/-- a comprehension over such a list -/
theorem lp_lc {vs : List Nat} {j : Nat} {P : List V → Prop} (p : V → Bool) (g : V → V) (h : EvLP tl σ H P) (hz : ∀ xs, P xs → xs.length ≤ 40000) (hw : ∀ x, wipe ((wipe σ vs).set j (some x)) vs = wipe σ vs)
    (ht : ∀ xs x H1, P xs → Ex H H1 → x ∈ xs → EvT t ((wipe σ vs).set j (some x)) H1 (p x)) (he : ∀ xs x H1, P xs → Ex H H1 → x ∈ xs → p x = true → Ev te ((wipe σ vs).set j (some x)) H1 (g x)) :
    EvLP (tLc (iList K tl) (gName j) t te vs) σ H (fun ys => ∃ xs, P xs ∧ ys = (xs.filter p).map g) := fun H0 e Q q => h H0 e _ fun a xs H1 ha e1 hx hP => ⟨a, rfl, ⟨xs, sq_of hx⟩, fun Dl hD =>
  lc_list (xs := xs) (Cw H1 (fun i => p (xs.getD i .non)) (fun i => g (xs.getD i .non)) Dl) ⟨hD, Ex.new hD, upd_same⟩ (fun i H' _ pp => sq_of (pp.2.1 a _ hx)) (fun i x H' hi pp => ⟨hw x, cw_turn pp (by have := (List.getElem?_eq_some_iff.mp hi).1; have := hz xs hP; omega)
      (by rw [getD_of hi]; exact ht xs x H1 hP (e.trans e1) (List.mem_of_getElem? hi)) (fun hf => by rw [getD_of hi] at hf ⊢; exact he xs x H1 hP (e.trans e1) (List.mem_of_getElem? hi) hf)⟩)
    (fun H' pp => q Dl _ H' (fresh_back e1 pp.1) (e1.trans pp.2.1) pp.2.2 ⟨xs, hP, given_list xs⟩)⟩
/-- what stands at a reference to a pair of ints -/
def pairAt (H : Hp) : V → Int × Int
  | .ref p => match H p with
    | some (.tup [.int a, .int b]) => (a, b)
    | _ => (0, 0)
  | _ => (0, 0)
theorem pairAt_is {H : Hp} {p : Addr} {a b : Int} (h : H p = some (.tup [.int a, .int b])) : pairAt H (.ref p) = (a, b) := by
  simp only [pairAt, h]
/-- sorted([(f i, i) for ..]): references to the pairs, in some order -/
theorem sorted_pairs {ta : TE} {n : Nat} {f : Nat → Int} (h : EvM HO.tup ta σ H ((List.range n).map fun i => [V.int (f i), V.int (i : Int)])) :
    ∀ H1, Ex H H1 → ∀ Q : VK, (∀ p zs H2, H1 p = none → Ex H1 H2 → H2 p = some (.lst zs) → (∀ x ∈ zs, ∃ q i, x = .ref q ∧ i < n ∧ H2 q = some (.tup [.int (f i), .int (i : Int)])) → (zs.map fun x => (pairAt H2 x).2.toNat).Perm (List.range n) → Q (.ref p) H2) → tCB (rSortedPO K) (tCons ta tNil) σ H1 Q := fun H1 e Q q =>
  h H1 e _ fun p ps H2 np e2 hp hm => by
    have hmem : ∀ x ∈ ps.map V.ref, ∃ q i, x = .ref q ∧ i < n ∧ H2 q = some (.tup [.int (f i), .int (i : Int)]) := by
      intro x hx
      obtain ⟨q, hq, rfl⟩ := List.mem_map.mp hx
      obtain ⟨i, hi⟩ := List.mem_iff_getElem?.mp hq
      obtain ⟨r, hr, h3⟩ := hm.get hi
      rw [List.getElem?_map] at hr
      by_cases hin : i < n
      · rw [List.getElem?_range hin] at hr
        cases hr
        exact ⟨q, i, rfl, hin, h3⟩
      · rw [List.getElem?_eq_none (by rw [List.length_range]; omega)] at hr
        cases hr
    refine ⟨p, ps.map V.ref, pairAt H2, rfl, sq_of hp, fun x hx => ?_, fun ys l hs hb hl => ?_⟩
    · obtain ⟨q, i, rfl, hin, h3⟩ := hmem x hx
      exact ⟨q, rfl, by rw [pairAt_is h3]; exact h3⟩
    · refine q l ys _ (fresh_back e2 hl) (e2.trans (Ex.new hl)) upd_same (fun x hx => ?_) ?_
      · obtain ⟨q, i, rfl, hin, h3⟩ := hmem x (hb.perm.mem_iff.mp hx)
        exact ⟨q, i, rfl, hin, Ex.new hl _ _ h3⟩
      · have h1 : (ys.map fun x => (pairAt (upd H2 l (.lst ys)) x).2.toNat).Perm ((ps.map V.ref).map fun x => (pairAt (upd H2 l (.lst ys)) x).2.toNat) := hb.perm.map _
        have h2 : ((ps.map V.ref).map fun x => (pairAt (upd H2 l (.lst ys)) x).2.toNat) = List.range n := by
          refine List.ext_getElem? fun i => ?_
          rw [List.getElem?_map, List.getElem?_map]
          cases hpi : ps[i]? with
          | none =>
            have hl := hm.len
            rw [List.length_map, List.length_range] at hl
            rw [List.getElem?_eq_none_iff] at hpi
            rw [List.getElem?_eq_none (by rw [List.length_range]; omega)]
            rfl
          | some q =>
            obtain ⟨r, hr, h3⟩ := hm.get hpi
            rw [List.getElem?_map] at hr
            by_cases hin : i < n
            · rw [List.getElem?_range hin] at hr ⊢
              cases hr
              show some ((pairAt (upd H2 l (.lst ys)) (.ref q)).2.toNat) = some i
              rw [pairAt_is (Ex.new hl _ _ h3), Int.toNat_natCast]
            · rw [List.getElem?_eq_none (by rw [List.length_range]; omega)] at hr
              cases hr
        rw [h2] at h1
        exact h1
/-- x = e, of which P is told -/
theorem q_asgG {i : Nat} {P : V → Hp → Prop} (h : ∀ Q : VK, (∀ v H2, P v H2 → Q v H2) → te σ H Q) (k : ∀ v H2, P v H2 → tz D (σ.set i (some v)) H2) : tSeq (tAsg te (gName i)) tz D σ H := h _ k
theorem q_sorted_pairs {i n : Nat} {f : Nat → Int} {ta : TE} (h : EvM HO.tup ta σ H ((List.range n).map fun i => [V.int (f i), V.int (i : Int)]))
    (k : ∀ p zs H2, H p = none → Ex H H2 → H2 p = some (.lst zs) → (∀ x ∈ zs, ∃ q i, x = .ref q ∧ i < n ∧ H2 q = some (.tup [.int (f i), .int (i : Int)])) → (zs.map fun x => (pairAt H2 x).2.toNat).Perm (List.range n) → tz D (σ.set i (some (.ref p))) H2) :
    tSeq (tAsg (tCB (rSortedPO K) (tCons ta tNil)) (gName i)) tz D σ H := sorted_pairs h H (Ex.refl H) _ k
/-- [e for x, y in pairs] -/
theorem el_lcPairs {a : Addr} {zs : List V} {i j : Nat} {vs : List Nat} (g : V → V) (h : Ev tl σ H (.ref a)) (hx : SqL K H a zs) (hz : zs.length ≤ 40000) (hp : ∀ x ∈ zs, ∃ q u v, x = .ref q ∧ H q = some (.tup [.int u, .int v]))
    (hw : ∀ x y, wipe (((wipe σ vs).set i (some x)).set j (some y)) vs = wipe σ vs) (he : ∀ x H1, Ex H H1 → x ∈ zs → Ev te (((wipe σ vs).set i (some (.int (pairAt H x).1))).set j (some (.int (pairAt H x).2))) H1 (g x)) :
    EvL (tLc (iList K tl) (gTup K 2 (gCons (gName i) (gCons (gName j) gNil))) tYes te vs) σ H (zs.map g) := fun H0 e Q q => h H0 e _ fun H1 e1 => ⟨a, rfl, ⟨zs, ex_l (e.trans e1) hx⟩, fun Dl hD =>
  lc_list (xs := zs) (Cw H1 (fun _ => true) (fun i => g (zs.getD i .non)) Dl) ⟨hD, Ex.new hD, upd_same⟩ (fun i H' _ pp => ex_l ((e.trans e1).trans pp.2.1) hx) (fun n x H' hi pp => by
      have hm := List.mem_of_getElem? hi
      obtain ⟨q2, u, v, ex2, h2⟩ := hp x hm
      have hn := (List.getElem?_eq_some_iff.mp hi).1
      have eP : pairAt H x = (u, v) := by rw [ex2]; exact pairAt_is h2
      refine ⟨q2, _, ex2, st_of (((e.trans e1).trans pp.2.1) _ _ h2), rfl, .int u, [.int v], rfl, .int v, [], rfl, rfl, hw _ _, ?_⟩
      refine cw_turn pp (by omega) et_yes fun _ => ?_
      have q3 := he x H1 (e.trans e1) hm
      rw [eP] at q3
      rw [getD_of hi]
      exact q3)
    (fun H' pp => by
      have e3 : given zs.length (fun _ => true) (fun i => g (zs.getD i .non)) = zs.map g := by
        have := given_list (p := fun _ => true) (g := g) zs
        rw [this, List.filter_eq_self.mpr fun _ _ => rfl]
      have h3 := pp.2.2
      rw [e3] at h3
      exact q Dl H' (fresh_back e1 pp.1) (e1.trans pp.2.1) h3)⟩
end
end Wm

/-! ### sums, pop, counts of ints -/
namespace Wm
open PySem PySem.Spec PyProof.Rows L2 Evl
section
variable {K : Kf} {σ : L2.St} {H H' : Hp} {ta tb te tl tx : TE} {t u : TT} {x y z v : V} {D : Ends} {tz tu : TS}
theorem ev_sumN {ns : List Int} (h : EvL ta σ H (ns.map V.int)) : Ev (tCB (rSum K) (tCons ta tNil)) σ H (.int ns.sum) := fun H1 e Q q =>
  h H1 e _ fun p H2 _ e2 hp => ⟨p, ns, rfl, sq_of hp, q H2 e2⟩
theorem s_pop {l : Addr} {xs : List V} {y : V} (hl : H l = some (.lst (xs ++ [y]))) (ha : Ev ta σ H (.ref l)) (k : ∀ H1, Ex H H1 → D.nx σ (upd H1 l (.lst xs))) : tDrop (tBM0 K "list" rPop ta) D σ H := ha H (Ex.refl H) _ fun H1 e1 =>
  ⟨Or.inl ⟨rfl, _, sq_of (e1 l _ hl)⟩, l, xs ++ [y], y, rfl, rfl, e1 l _ hl, by rw [List.length_append, List.length_singleton, Nat.add_sub_cancel, List.getElem?_append_right (Nat.le_refl _), Nat.sub_self]; rfl, by
    rw [List.dropLast_concat]
    exact k H1 e1⟩
theorem q_pop {l : Addr} {xs : List V} {y : V} (hl : H l = some (.lst (xs ++ [y]))) (ha : Ev ta σ H (.ref l)) (k : ∀ H1, Ex H H1 → tz D σ (upd H1 l (.lst xs))) : tSeq (tDrop (tBM0 K "list" rPop ta)) tz D σ H := s_pop (D := { D with nx := tz D }) hl ha k
end
theorem inV_vn (p : Nat) (l : List Nat) : inV (.int (p : Int)) (vn l) = decide (p ∈ l) := by
  unfold inV vn
  rw [List.any_map, Bool.eq_iff_iff, List.any_eq_true, decide_eq_true_eq]
  constructor
  · rintro ⟨q, hq, e⟩
    have e2 : ((q : Int) == (p : Int)) = true := e
    have e3 : q = p := Int.ofNat.inj (eq_of_beq e2)
    rw [← e3]
    exact hq
  · intro h
    exact ⟨p, h, show ((p : Int) == (p : Int)) = true from beq_self_eq_true _⟩
theorem vn_flat (l : List Nat) : (vn l).all flatV = true := by
  unfold vn
  rw [List.all_map, List.all_eq_true]
  intro z _
  rfl
end Wm

/-! ### list(reversed(xs)), xs a list: a new list -/
namespace Wm
open PySem PySem.Spec PyProof.Rows L2 Evl
section
variable {P : Program} {w : World} {A : Around} {E : Value → Shared → Prop} {s : Shared}
theorem ext_rev {Fq : Result → Shared → Prop} {S I l : Addr} {xs : Array Value} {c0 : Nat} {rv : Value} (hA : A.handled = none) (hi : s.heap.IsRevIter I l ((xs.size : Int) - 1)) (hx : s.heap.IsList l xs) (n1 : l ≠ I) (n2 : S ≠ I) (n3 : S ≠ l) (hz : xs.size ≤ sizeLine)
    (hS : s.heap.get? S = some { cls := .type "list", data := .seq #[] c0 })
    (k : ∀ (h2 : Heap) (tk : Nat) (ys : Array Value) (c2 : Nat), (∀ b o, b ≠ S → b ≠ I → s.heap.get? b = some o → h2.get? b = some o) → h2.get? S = some { cls := .type "list", dict := none, data := .seq ys c2, slots := #[] } → ItemsOf (fun i v => xs[xs.size - 1 - i]? = some v) ys xs.size → Fq (.ok (.ret rv)) { s with heap := h2, toks := tk }) :
    wpAny (model P w) A.in1 (Builtin.List.listExtendWith (.ref S) (.ref I) rv) (fun fin s2 => match fin with | .done f => Fq (.ok f) s2 | .again c => c.quiet = true ∧ codeAny (model P w) A c Fq s2) (fun e s2 => Fq (.error e) s2) s := by
  have Wk := (Walks.listRev (prog := P) (w := w) (A := A.in1) hA I l n1 xs).toS
  have nin : S ∉ [I, l] := by
    simp only [List.mem_cons, List.not_mem_nil, or_false, not_or]
    exact ⟨n2, n3⟩
  have ty : s.TypeIs (.ref I) "list_reverseiterator" := hi.typeIs
  have r1 : Builtin.List.listSameRef (.ref S) (.ref I) = false := by simp [Builtin.List.listSameRef, n2]
  unfold Builtin.List.listExtendWith
  refine wpAny_bind (wpAny_typeOf ty ?_)
  rw [if_neg (by rw [r1]; decide)]
  refine wpAny_bind (wpAny_pyIter_revIter hi ?_)
  refine wpAny_bind (wpAny_holding ?_)
  unfold Builtin.List.listLengthHint
  refine wpAny_bind (wpAny_specialOf ty RT.nolen_lri ?_)
  show wpAny _ A.in1 (specialOf (Value.ref I) (Str.ofString "__length_hint__") >>= _) _ _ s
  refine wpAny_bind (wpAny_specialOf ty RT.hint_lri ?_)
  generalize hq : ("list_reverseiterator.__length_hint__" : String) = q
  wp_delta
  rw [show splitId q = some ("list_reverseiterator", "__length_hint__") from by subst hq; decide +kernel]
  subst hq
  refine wpAny_bind (wpAny_isInstance (b := true) ty (by rw [isSubtype_type]; kernel_rfl) ?_)
  refine wpAny_pure ?_
  rw [if_neg (by decide)]
  have z0 : ((xs.size : Nat) : Int) - 1 - ((0 : Nat) : Int) = (xs.size : Int) - 1 := by omega
  refine wpAny_pure ⟨plainId_quiet F.plain_extend_loop _, codeAny_extend_loopS Wk hz S nin rv xs.size 0 _ _ c0 rfl (Nat.zero_le _) ⟨Nat.zero_le _, by rw [z0]; exact hi, hx⟩ hS (ItemsOf.nil _) fun s2 ys c2 mv hS2 it => ?_⟩
  rw [Moved.eq_with mv]
  refine k s2.heap s2.toks ys c2 (fun b o b1 b2 e => mv.heap b o (fun hm => ?_) e) hS2 it
  rcases List.mem_cons.mp hm with e3 | hm
  · exact b1 e3
  · exact b2 (List.mem_singleton.mp hm)
theorem call_list_rev {Q : Value → Shared → Prop} {I l : Addr} {xs : Array Value} (hA : A.handled = none) (hi : s.heap.IsRevIter I l ((xs.size : Int) - 1)) (hx : s.heap.IsList l xs) (n1 : l ≠ I) (hz : xs.size ≤ sizeLine)
    (k : ∀ (h2 : Heap) (tk : Nat) (ys : Array Value) (c2 : Nat), (∀ b o, b ≠ I → s.heap.get? b = some o → h2.get? b = some o) → h2.get? s.heap.objs.size = some { cls := .type "list", dict := none, data := .seq ys c2, slots := #[] } → ItemsOf (fun i v => xs[xs.size - 1 - i]? = some v) ys xs.size → Q (.ref s.heap.objs.size) { s with heap := h2, toks := tk }) :
    wpAny (model P w) A (call (.type "list") [.ref I]) Q E s := by
  obtain ⟨oi, hoi, _⟩ := id hi
  obtain ⟨ol, hol, _⟩ := id hx
  have n2 : s.heap.objs.size ≠ I := Nat.ne_of_gt (Heap.lt_size hoi)
  have n3 : s.heap.objs.size ≠ l := Nat.ne_of_gt (Heap.lt_size hol)
  refine callType_codes (Q₁ := fun u s1 => u = .ref s.heap.objs.size ∧ s1 = { s with heap := s.heap.push { cls := .type "list", data := .seq #[] } }) F.called_list (F.typeCall_list_1 _) F.entry_list_init (code_list_new _ ⟨rfl, rfl⟩) fun u s1 z => ?_
  obtain ⟨rfl, rfl⟩ := z
  have g : (s.heap.push { cls := .type "list", data := .seq #[] }).get? s.heap.objs.size = some { cls := .type "list", data := .seq #[] } := Heap.get?_push_size _ rfl
  refine ⟨⟨_, g, rfl⟩, F.args_list_init_2 _ _, ?_⟩
  show wpAny _ _ (do let old ← Builtin.List.listItems (.ref s.heap.objs.size); Builtin.List.listUpdate (.ref s.heap.objs.size) (fun _ => #[]); letGo old.toList.reverse; Builtin.List.listExtendWith (.ref s.heap.objs.size) (.ref I) .none) _ _ _
  refine wpAny_bind ?_
  unfold Builtin.List.listItems
  refine wpAny_bind (wpAny_seqItems g rfl (wpAny_pure ?_))
  show wpAny _ _ (updateSeq s.heap.objs.size (fun _ => #[]) >>= fun _ => letGo (#[] : Array Value).toList.reverse >>= fun _ => Builtin.List.listExtendWith (.ref s.heap.objs.size) (.ref I) .none) _ _ _
  refine wpAny_bind (wpAny_updateSeq g rfl ?_)
  have g2 := Heap.get?_update_self (Obj.mapSeq (fun _ => (#[] : Array Value))) g rfl
  have kp : ∀ b o, b ≠ s.heap.objs.size → s.heap.get? b = some o → ((s.heap.push { cls := .type "list", data := .seq #[] }).update s.heap.objs.size (Obj.mapSeq (fun _ => (#[] : Array Value)))).get? b = some o := fun b o hb e => (Heap.get?_update_other _ _ (Ne.symm hb)).trans (Heap.get?_push_of_some _ e)
  refine wpAny_bind (wpAny_letGo ?_)
  have hx2 : ((s.heap.push { cls := .type "list", data := .seq #[] }).update s.heap.objs.size (Obj.mapSeq (fun _ => (#[] : Array Value)))).IsList l xs := by
    obtain ⟨o, ho, hr⟩ := hx
    exact ⟨o, kp _ _ n3.symm ho, hr⟩
  refine ext_rev (A := A.in1) hA (hi.at fun o e => kp _ _ n2.symm e) hx2 n1 n2 n3 hz g2 fun h2 tk ys c2 kk hS it => ?_
  exact ⟨rfl, k h2 tk ys c2 (fun b o hb e => kk b o (Nat.ne_of_lt (Heap.lt_size e)) hb (kp b o (Nat.ne_of_lt (Heap.lt_size e)) e)) hS it⟩
end
section
variable {X : Cx}
def tLstRev (K : Kf) (te : TE) : TE := fun σ H Q => te σ H fun v H1 => ∃ (a : Addr) (xs : List V), v = .ref a ∧ SqL K H1 a xs ∧ ∀ q, H1 q = none → Q (.ref q) (upd H1 q (.lst xs.reverse))
theorem pe_lstRev {e : Expr} {te : TE} {p p2 pos pos2 : Pos} (hc : X.calm = true) (hg : Gl X "list") (hm : X.mg "list" = none) (hg2 : Gl X "reversed") (hm2 : X.mg "reversed" = none) (he : PE X e te)
    (z1 : starEach [e] X.env = (false, eval e X.env) :: starEach [] X.env := by rfl) (z2 : starEach [.Call (.Name "reversed" p2) [e] [] pos2] X.env = (false, eval (.Call (.Name "reversed" p2) [e] [] pos2) X.env) :: starEach [] X.env := by rfl) :
    PE X (.Call (.Name "list" p) [.Call (.Name "reversed" p2) [e] [] pos2] [] pos) (tLstRev X.K te) := by
  refine ⟨fun pins s σ H Q I h => ?_⟩
  refine Call_ (ld_blt (u := .type "list") I hg hm (by decide +kernel) (PyProof.Rows.callWith_type1 (PyProof.Rows.args_cons (Call_ (ld_blt I hg2 hm2 PyProof.Rows.boot_reversed (PyProof.Rows.callWith_type1 (PyProof.Rows.args_cons (thn (he.run pins s σ H _ I h) fun u s1 ⟨v, H1, I1, r1, q1⟩ => PyProof.Rows.args_nil ?_) z1) z1 rfl))) z2) z2 rfl))
  obtain ⟨a, xs, rfl, hq, q⟩ := q1
  cases r1
  obtain ⟨us, rv, pl, hz⟩ := I1.list hq
  have hl := pl.isList
  refine call_reversed_list hl (PyProof.Rows.args_nil ?_)
  obtain ⟨ol, hol, _⟩ := id hl
  have sz : us.toArray.size ≤ sizeLine := by rw [List.size_toArray, ← rv.length]; exact hz
  refine call_list_rev (s := { s1 with heap := s1.heap.push (revObj a ((us.toArray.size : Int) - 1)) }) (I := s1.heap.objs.size) (l := a) (xs := us.toArray) (I1.ok.hd hc) ⟨_, Heap.get?_push_size _ rfl, rfl, rfl⟩ (hl.push _) (Nat.ne_of_lt (Heap.lt_size hol)) sz fun h2 tk ys c2 kk hS it => ?_
  have k0 : ∀ b o, s1.heap.get? b = some o → h2.get? b = some o := fun b o e2 => kk b o (Nat.ne_of_lt (Heap.lt_size e2)) (Heap.get?_push_of_some _ e2)
  have big : s1.heap.objs.size ≤ (s1.heap.push (revObj a ((us.toArray.size : Int) - 1))).objs.size := by
    rw [Heap.size_push]
    exact Nat.le_succ _
  refine ⟨.ref _, upd H1 _ (.lst xs.reverse), I1.laid (t' := tk) k0 big (show ObjOk X.prog X.w _ _ _ (.lst xs.reverse) from ⟨by rw [List.length_reverse]; exact hz, ys.toList, c2, RT.vals_rev rv it, ?_⟩), rfl, q _ (I1.hok.fresh big)⟩
  rw [Array.toArray_toList]
  exact hS
end
end Wm

/-! ### exceptions: what is refused, the word that a suite tells of it -/
namespace Wm
open PySem PySem.Spec PyProof.Rows L2 Evl
/-- an own class of exceptions, as raise asks it -/
structure Exc (K : Kf) (mg : Mg) (c : Str) : Prop where
  g : mg c = some (.ref (He.ga K c))
  x : PySem.W.excIn K (He.ga K c) He.veBase "ValueError.__new__" = true
  k : PySem.W.keepIn K (.ref (He.ga K c)) = true
  b : PySem.W.subIn K (.ref (He.ga K c)) (.type "BaseException") = some true
  t : PySem.W.typeIn K (.ref (He.ga K c)) = some (.type "type")
theorem exc_of {K : Kf} {mg : Mg} {c : Str} (g : mg c = some (.ref (He.ga K c))) (h : (He.Fa.exc c).ok K = true) : Exc K mg c := by
  obtain ⟨h1, h2, h3, h4⟩ := He.exc_ok h
  exact ⟨g, h1, h2, h3, h4⟩
def classAt : Nat → Str
  | 0 => "NoQuay"
  | 1 => "NoRow"
  | 2 => "NoOutcome"
  | 3 => "NoTree"
  | 4 => "NoRank"
  | _ => "NoNote"
def wordAt : Nat → Str
  | 0 => "quay"
  | 1 => "row"
  | 2 => "outcome"
  | 3 => "tree"
  | 4 => "rank"
  | _ => "note"
/-- the class at D is the i-th one, and no other of them -/
structure IsWord (K : Kf) (D : Addr) (i : Nat) : Prop where
  c : ExcC K D
  kit : ∀ j, j < 6 → PySem.W.kitOne K (.ref D) (.ref (He.ga K (classAt j))) = some (decide (j = i))
  ve : PySem.W.kitOne K (.ref D) (.type "ValueError") = some true
  moor : PySem.W.exmOne K (.ref D) (.ref (He.ga K "MoorError")) = some true
def excCB (K : Kf) (D : Addr) : Bool :=
  decide (PySem.W.findIn K (.ref D) "__getattribute__" = some (some (.builtin "BaseException.__getattribute__"))) && (decide (PySem.W.findIn K (.ref D) "__getattr__" = some none) && (decide (PySem.W.subIn K (.ref D) (.type "BaseException") = some true) && (PySem.W.hasDictIn K D && (decide (PySem.W.findIn K (.ref D) "__class__" = some (some (.builtin "object.__class__"))) && (decide (PySem.W.specialIn K (.builtin "object.__class__") "__get__" = some (some (.builtin "getset_descriptor.__get__"))) && (decide (PySem.W.takesIn K (.builtin "object.__class__") = some true) && decide (PySem.W.mroIn K D (.type "object") = some true)))))))
theorem excCB_ok {K : Kf} {D : Addr} (h : excCB K D = true) : ExcC K D := by
  obtain ⟨h1, h⟩ := He.ba h
  obtain ⟨h2, h⟩ := He.ba h
  obtain ⟨h3, h⟩ := He.ba h
  obtain ⟨h4, h⟩ := He.ba h
  obtain ⟨h5, h⟩ := He.ba h
  obtain ⟨h6, h⟩ := He.ba h
  obtain ⟨h7, h8⟩ := He.ba h
  exact ⟨of_decide_eq_true h1, of_decide_eq_true h2, of_decide_eq_true h3, h4, of_decide_eq_true h5, of_decide_eq_true h6, of_decide_eq_true h7, of_decide_eq_true h8⟩
def isWordB (K : Kf) (i : Nat) : Bool :=
  excCB K (He.ga K (classAt i)) && ((List.range 6).all (fun j => decide (PySem.W.kitOne K (.ref (He.ga K (classAt i))) (.ref (He.ga K (classAt j))) = some (decide (j = i)))) && (decide (PySem.W.kitOne K (.ref (He.ga K (classAt i))) (.type "ValueError") = some true) && decide (PySem.W.exmOne K (.ref (He.ga K (classAt i))) (.ref (He.ga K "MoorError")) = some true)))
theorem isWord_ok {K : Kf} {i : Nat} (h : isWordB K i = true) : IsWord K (He.ga K (classAt i)) i := by
  obtain ⟨h1, h⟩ := He.ba h
  obtain ⟨h2, h⟩ := He.ba h
  obtain ⟨h3, h4⟩ := He.ba h
  exact ⟨excCB_ok h1, fun j hj => of_decide_eq_true (List.all_eq_true.mp h2 j (List.mem_range.mpr hj)), of_decide_eq_true h3, of_decide_eq_true h4⟩
def wordsB (K : Kf) : Bool := (List.range 6).all (fun i => isWordB K i && (He.Fa.exc (classAt i)).ok K)
structure Words (K : Kf) : Prop where
  w : ∀ i, i < 6 → IsWord K (He.ga K (classAt i)) i
  x : ∀ i, i < 6 → (He.Fa.exc (classAt i)).ok K = true
theorem words_ok {K : Kf} (h : wordsB K = true) : Words K :=
  ⟨fun i hi => isWord_ok (He.ba (List.all_eq_true.mp h i (List.mem_range.mpr hi))).1, fun i hi => (He.ba (List.all_eq_true.mp h i (List.mem_range.mpr hi))).2⟩
/-! a def that is called while the exception p is handled -/
structure FnP (P : Program) (w : World) (K : Kf) (mg : Mg) (base : Heap) (k : Nat) (f : Addr) (fd : FuncData) (ps : List Str) (p : Addr × Obj) (sp : Sp) : Prop where
  len : ∀ vs H Q E, sp vs H Q E → vs.length = ps.length
  run : ∀ (A : Around) (outer : List Env) (s : Shared) (H : Hp) (args : Args) (us : List Value) (vs : List V) (Q : VK) (E : XK), L2H.RoomH k A → L2H.PinOk outer H s p → Env0 P w K mg base A outer s H → BindsTo s fd args (ps.zip us) → Vals vs us → sp vs H Q E → codeAny (model P w) A (.call (.ref f) args) (CR CX0 outer P w H s Q E) s
structure OwnP (P : Program) (w : World) (K : Kf) (mg : Mg) (base : Heap) (k : Nat) (x : Str) (ps : List Str) (sp : Addr × Obj → Sp) : Prop where
  ex : ∃ (f : Addr) (fd : FuncData), (∀ p, FnP P w K mg base k f fd ps p (sp p)) ∧ mg x = some (.ref f) ∧ PySem.W.keepIn K (.ref f) = true ∧ Binds K fd ps []
section
variable {P : Program} {w : World} {K : Kf} {mg : Mg} {base : Heap}
theorem pinned_of {k : Nat} {f : Addr} {nm ql : Str} {prm : Arguments} {bd : List Stmt} {sc : Scope} {u1 u2 u3 u4 cv u5 o1 : Value} {n1 o2 : Option Addr} {sl : Array (Option Value)} {N ps : List Str} {p : Addr × Obj} {sp : Sp}
    (lk : K.lookup f = some ⟨o1, o2, .func (PySem.W.fnOf nm ql prm bd sc u1 u2 u3 u4 n1 cv u5), sl⟩) (hc : PySem.W.codeIn K cv ql = true) (S : FnScope N ps sc) (len : ∀ vs H Q E, sp vs H Q E → vs.length = ps.length)
    (body : ∀ (A : Around) (outer : List Env) (s : Shared) (H : Hp) (vs : List V) (Q : VK) (E : XK), L2H.RoomH k (A.deeper (envOfC ql sc s.heap.objs.size f cv)) → sp vs H Q E → ∃ t, PSs (L2H.cxH CX0 P w K mg base N ql sc f cv A outer s H E p) bd t ∧ t { nx := fun _ H' => Q .non H', rt := Q } (start N vs) H) :
    FnP P w K mg base (k + 1) f (PySem.W.fnOf nm ql prm bd sc u1 u2 u3 u4 n1 cv u5) ps p sp := by
  constructor
  · exact len
  intro A outer s H args us vs Q E room pin e0 bnd vals h
  have inH : K.In s.heap := e0.mod.kin.keeps fun b o z => (e0.bs b o z).1
  have lims : s.heap.NoLimit := e0.mod.nolimit.keeps fun b o z => (e0.bs b o z).1
  have kinds : ∀ y ∈ ps.zip us, sc.names.lookup y.1 = some .local ∨ (sc.names.lookup y.1 = some .cell ∧ ((cellsFrom (s.heap.objs.size + 1) sc.names []).lookup y.1).isSome = true) := by
    rintro ⟨n, v⟩ hy
    rcases S.par n (List.of_mem_zip hy).1 with q | q
    · exact Or.inl q
    · exact Or.inr ⟨q, PySem.W.cellsFrom_some _ _ _ (Or.inl q)⟩
  refine codeAny_call_function room.depth (inH _ _ lk) rfl S.co S.gen rfl (PySem.W.codeRec_of inH hc) (bnd _ _ _ _ (wpAny_newFunctionEnv_cells S.kind kinds fun env he s1 x => ?_))
  cases he
  refine ⟨lims.keeps x.toInCall.keep, codeAny_func ?_⟩
  obtain ⟨t, hd, hq⟩ := body A outer s H vs Q E (room.deeper _) h
  have I := L2H.inv_startH (CX := CX0) (P := P) (w := w) (mg := mg) (base := base) (E := E) (f := f) (cd := cv) S pin e0 (len _ _ _ _ h) vals x
  refine wpAny_mono (hd.run [] s1 _ H _ I hq) (fun fl s2 g => ?_) (fun _ _ g => g)
  cases fl with
  | ret u =>
    obtain ⟨v, σ2, H2, J, r2, q2⟩ := g
    exact ⟨v, H2, J.os, J.bare, J.base, J.hok, r2, q2⟩
  | next =>
    obtain ⟨σ2, H2, J, q2⟩ := g
    exact ⟨.non, H2, J.os, J.bare, J.base, J.hok, rfl, q2⟩
  | brk =>
    obtain ⟨_, _, _, q2⟩ := g
    exact q2.elim
  | cont =>
    obtain ⟨_, _, _, q2⟩ := g
    exact q2.elim
theorem Def.pinned {x : Str} {st : Stmt} {N ps : List Str} {k : Nat} {sp : Addr × Obj → Sp} (D : Def K mg x st) (S : FnScope N ps (defScope st)) (b : BindsWell x st ps) (len : ∀ p vs H Q E, sp p vs H Q E → vs.length = ps.length)
    (body : ∀ (p : Addr × Obj) (f : Addr) (cdv : Value) (A : Around) (outer : List Env) (s : Shared) (H : Hp) (vs : List V) (Q : VK) (E : XK), L2H.RoomH k (A.deeper (envOfC x (defScope st) s.heap.objs.size f cdv)) → sp p vs H Q E →
      ∃ t, PSs (L2H.cxH CX0 P w K mg base N x (defScope st) f cdv A outer s H E p) (defBody st) t ∧ t { nx := fun _ H' => Q .non H', rt := Q } (start N vs) H) : OwnP P w K mg base (k + 1) x ps sp := by
  obtain ⟨f, fd, F, m⟩ := D.ex
  have bn := F.bindsN b
  have kp := F.kp
  obtain ⟨oc, od, dV, kV, doc, pm, an, cdv, ct, osl, rfl, lk, hcd, _, _⟩ := F.ex
  exact ⟨f, _, fun p => pinned_of lk hcd S (len p) fun A outer s H vs Q E hr h => body p f cdv A outer s H vs Q E hr h, m, kp, bn⟩
end
section
variable {X : Cx}
theorem pe_imp {e : Expr} {te te' : TE} (h : PE X e te) (k : ∀ σ H Q, te' σ H Q → te σ H Q) : PE X e te' := ⟨fun pins s σ H Q I g => h.run pins s σ H Q I (k σ H Q g)⟩
/-- a call while p is handled -/
theorem pe_callP {k : Nat} {ps : List Str} {sp : Addr × Obj → Sp} {x : Str} {q pos : Pos} {e : Expr} {es : List Expr} {t : TA} {p : Addr × Obj} (hp : p ∈ X.pn) (O : OwnP X.prog X.w X.K X.mg X.base k x ps sp) (hr : L2H.RoomH k X.A) (ha : PA X (e :: es) t) (hg : Gl X x := by rfl) (hdb : (x == ("__debug__" : Str)) = false := by decide) (he : starEach (e :: es) X.env = (false, eval e X.env) :: starEach es X.env := by rfl) (hpl : (backTo pos (starEach es X.env)).any (·.1) = false := by rfl) :
    PE X (.Call (.Name x q) (e :: es) [] pos) (fun σ H Q => t σ H fun vs H1 => sp p vs H1 Q E0) := by
  obtain ⟨f, fd, G, m, kp, b⟩ := O.ex
  constructor
  intro pins s σ H Q I h
  refine wpAny_Call_Name_kw (ld_glob I hg m ?_ hdb)
  refine PySem.W.callWith_K (h₀ := X.base) I.ok.mod.kin kp (thn (ha.run pos pins s σ H _ I h) fun us s1 z => ?_) he hpl
  obtain ⟨vs, H1, I1, r, g⟩ := z
  refine ⟨I1.kIn, ?_⟩
  have hl : us.length = ps.length := by
    rw [← r.length]
    exact (G p).len _ _ _ _ g
  have bb := b s1 us I1.kIn (by rw [List.append_nil]; exact hl)
  rw [List.append_nil] at bb
  have P1 := I1.pin p (List.mem_append_left _ hp)
  have pin : L2H.PinOk X.stack H1 s1 p := ⟨P1.1, P1.2.1, fun hm => (List.mem_cons.mp (I1.stkSub p.1 hm)).elim P1.2.2.1 P1.2.2.2.1, P1.2.2.2.2⟩
  refine wpAny_call (codeAny_mono ((G p).run X.A X.stack s1 H1 ⟨us, []⟩ us vs Q E0 hr pin I1.env0 bb r g) fun rs s2 hq => ?_)
  cases rs with
  | error e => exact hq.elim
  | ok fl =>
    cases fl with
    | ret u => exact I1.after hq
    | next => exact hq.elim
    | brk => exact hq.elim
    | cont => exact hq.elim
/-- isinstance(e, c), e the exception that is handled -/
theorem call_isP {p : Addr × Obj} {D : Addr} (hp : p ∈ X.pn) (C : ExcC X.K D) (hz : Zc (.ref D) none p.2) (hf : ∃ vs, p.2.data = .fields vs) : CallR X (.builtin "isinstance") (rIsE X.K D p.1) := by
  intro pins s σ H xs us Q I r h
  obtain ⟨c, cv, b, rfl, hcv, hk, q⟩ := h
  cases r with
  | cons rx rr =>
    cases rr with
    | cons rt rr2 =>
      cases rr2
      cases rx
      have ec := hcv _ rt
      subst ec
      have hget := (I.pin p (List.mem_append_left _ hp)).1
      have J : PySem.W.InstAt s.heap p.1 p.2 D none := by
        obtain ⟨vs, hv⟩ := hf
        obtain ⟨pa, po⟩ := p
        obtain ⟨oc, od, dt, sl⟩ := po
        obtain ⟨h1, h2⟩ := hz
        dsimp only at h1 h2 hv hget
        subst h1 h2 hv
        exact ⟨hget, rfl, rfl, trivial⟩
      exact PySem.W.kia_one (PySem.W.handS_kitx_exc C.hg C.hk C.hs C.hd C.ha C.hn C.ht C.hm) I.kIn J hk (fun z => nomatch z) fun tk => ⟨.bl b, H, I.kept (t' := tk) fun _ _ z => z, rfl, q⟩
/-- xs.count(b), bools -/
def rCntB (K : Kf) : V → List V → Hp → VK → Prop := fun x xs H Q => ∃ (p : Addr) (bs : List Bool) (k : Bool), x = .ref p ∧ xs = [.bl k] ∧ SqL K H p (bs.map V.bl) ∧ Q (.int ((bs.count k : Nat) : Int)) H
theorem bools_of : ∀ {bs : List Bool} {us : List Value}, Vals (bs.map V.bl) us → us = bs.map Value.bool
  | [], _, .nil => rfl
  | b :: bs, _, .cons r t => by
    cases r
    rw [bools_of t]
    rfl
theorem mt_cntB : MtR X "list.count" (rCntB X.K) := by
  intro pins s σ H x xs v us Q I rx rxs h
  obtain ⟨p, bs, k, rfl, rfl, hs, q⟩ := h
  cases rx
  obtain ⟨u, rfl, ru⟩ := rxs.one
  cases ru
  obtain ⟨its, rv, pl, hlen⟩ := I.list hs
  obtain ⟨⟨cls, dd, data, sl⟩, n, ho, hc, hdn, hd⟩ := pl
  simp only at hc hd
  subst hc hd
  have hb := bools_of rv
  subst hb
  refine call_meets PySem.F.slot_list_count ⟨_, ho, rfl⟩ PySem.F.entry_list_count (PySem.F.args_list_count_2 _ _) (SeqAt.list_countAt p (bs.map Value.bool).toArray n dd sl (.bool k) (fun y => decide (y = Value.bool k))) ⟨ho, fun y hy => ?_, ?_⟩
  · have hy2 : y ∈ bs.map Value.bool := by simpa using hy
    obtain ⟨c, _, rfl⟩ := List.mem_map.mp hy2
    have e : decide (Value.bool c = Value.bool k) = (c == k) := by cases c <;> cases k <;> rfl
    rw [e]
    exact SeqAt.EqAt.bool_bool c k
  · have e : (bs.map Value.bool).toArray.toList.countP (fun y => decide (y = Value.bool k)) = bs.count k := by
      rw [List.toList_toArray, List.countP_map, List.count]
      refine List.countP_congr fun c _ => ?_
      show decide (Value.bool c = Value.bool k) = true ↔ (c == k) = true
      cases c <;> cases k <;> decide
    refine ⟨.int ((bs.count k : Nat) : Int), H, I.tok _, ⟨s.toks, ?_⟩, q⟩
    show Value.int (((bs.map Value.bool).toArray.toList.countP (fun y => decide (y = Value.bool k)) : Nat) : Int) s.toks = Value.int ((bs.count k : Nat) : Int) s.toks
    rw [e]
/-- return word(e), in the suite of the exception a -/
def tWord (K : Kf) (a : Addr) (cls : Value) (d : Option Addr) (te : TE) : TE := fun σ H Q => te σ H fun v H1 => v = .ref a ∧ ∃ D i, cls = .ref D ∧ d = none ∧ i < 6 ∧ IsWord K D i ∧ ∀ H', Ex H1 H' → Q (.str (wordAt i)) H'
def sp_l_word_of (K : Kf) (p : Addr × Obj) : Sp := fun vs H Q _ => ∃ D i, vs = [.ref p.1] ∧ Zc (.ref D) none p.2 ∧ (∃ fs, p.2.data = .fields fs) ∧ i < 6 ∧ IsWord K D i ∧ RetV (.str (wordAt i)) H Q
theorem pe_word {k : Nat} {x : Str} {q pos : Pos} {e : Expr} {te : TE} {a : Addr} {oe : Obj} {cls : Value} {d : Option Addr} {pn : List (Addr × Obj)} (O : OwnP X.prog X.w X.K X.mg X.base k x ["e"] (sp_l_word_of X.K)) (hr : Room k X.A) (hz : Zc cls d oe) (hf : ∃ vs, oe.data = .fields vs) (ha : PE (X.suite a ((a, oe) :: pn)) e te) (hg : Gl (X.suite a ((a, oe) :: pn)) x := by rfl) (hdb : (x == ("__debug__" : Str)) = false := by decide) (he : starEach [e] X.env = (false, eval e X.env) :: starEach [] X.env := by rfl) (hpl : (backTo pos (starEach [] X.env)).any (·.1) = false := by rfl) :
    PE (X.suite a ((a, oe) :: pn)) (.Call (.Name x q) [e] [] pos) (tWord X.K a cls d te) := by
  refine pe_imp (pe_callP (X := X.suite a ((a, oe) :: pn)) (p := (a, oe)) List.mem_cons_self O ⟨hr.dp, hr.un⟩ (pa_cons ha pa_nil he) hg hdb he hpl) fun σ H Q g => ?_
  show te σ H fun v H1 => sp_l_word_of X.K (a, oe) [v] H1 Q E0
  have key : (fun v H1 => v = V.ref a ∧ ∃ D i, cls = .ref D ∧ d = none ∧ i < 6 ∧ IsWord X.K D i ∧ ∀ H', Ex H1 H' → Q (.str (wordAt i)) H') = fun v H1 => sp_l_word_of X.K (a, oe) [v] H1 Q E0 := by
    funext v H1
    refine propext ⟨?_, ?_⟩
    · rintro ⟨rfl, D, i, rfl, rfl, hi, hw, hq⟩
      exact ⟨D, i, rfl, hz, hf, hi, hw, hq⟩
    · rintro ⟨D, i, e1, ⟨z1, z2⟩, _, hi, hw, hq⟩
      refine ⟨(List.cons.inj e1).1, D, i, ?_, ?_, hi, hw, hq⟩
      · rw [← hz.1]
        exact z1
      · rw [← hz.2]
        exact z2
  rw [← key]
  exact g
/-- a call of an own def that may raise, in a try -/
theorem pe_ownS {CX : CXT} {k : Nat} {ps : List Str} {sp : Sp} {E : L2.St → XK} {x : Str} {p pos : Pos} {e : Expr} {es : List Expr} {t : TA} (F : Own X.prog X.w X.K X.mg X.base CX k x ps sp) (hr : Room k X.A) (hx : ∀ σ, PassesAt CX X σ (E σ)) (ha : PA X (e :: es) t) (hg : Gl X x := by rfl) (hdb : (x == ("__debug__" : Str)) = false := by decide)
    (he : starEach (e :: es) X.env = (false, eval e X.env) :: starEach es X.env := by rfl) (hpl : (backTo pos (starEach es X.env)).any (·.1) = false := by rfl) : PE X (.Call (.Name x p) (e :: es) [] pos) (tCallS sp E t) := by
  obtain ⟨f, fd, G, m, kp, b⟩ := F.ex
  exact pe_callS G hr hg m kp b hx ha hdb he hpl
end
/-! readings -/
section
variable {K : Kf} {σ : L2.St} {H H' : Hp} {ta tb te tl tx : TE} {t u : TT} {x y z v : V} {D : Ends} {tz tu : TS} {r : R2}
/-- whatever is wished of the value: it raises -/
def Rz (te : TE) (σ : L2.St) (H : Hp) : Prop := ∀ H1, Ex H H1 → ∀ Q : VK, te σ H1 Q
theorem Rz.mono (h : Rz te σ H) (e : Ex H H') : Rz te σ H' := fun H1 e1 Q => h H1 (e.trans e1) Q
theorem rz_call {sp : Sp} {E : XK} {ta : TA} {vs : List V} (h : EvA ta σ H vs) (hs : ∀ H1, Ex H H1 → ∀ Q : VK, sp vs H1 Q E) : Rz (tCall sp [] E ta) σ H := fun H1 e Q => h H1 e _ fun H2 e2 => by
  rw [List.append_nil]
  exact hs H2 (e.trans e2) Q
theorem rz_callN {sp : Sp} {E : XK} {xs : List V} (h : EvL ta σ H xs) (hs : ∀ p H1, Ex H H1 → H1 p = some (.lst xs) → ∀ Q : VK, sp [.ref p] H1 Q E) : Rz (tCall sp [] E (tCons ta tNil)) σ H := fun H1 e Q => h H1 e _ fun p H2 np e2 hp => hs p H2 (e.trans e2) hp Q
theorem rz_op2 (ha : Ev ta σ H x) (hb : Rz tb σ H) : Rz (tOp r ta tb) σ H := fun H1 e Q => ha H1 e _ fun H2 e2 => hb H2 (e.trans e2) _
theorem rz_op1 (ha : Rz ta σ H) : Rz (tOp r ta tb) σ H := fun H1 e Q => ha H1 e _
theorem rz_cb1 {rc : List V → Hp → VK → Prop} (ha : Rz ta σ H) : Rz (tCB rc (tCons ta tNil)) σ H := fun H1 e Q => ha H1 e _
theorem s_dropR (h : Rz te σ H) : tDrop te D σ H := h H (Ex.refl H) _
theorem q_dropR (h : Rz te σ H) : tSeq (tDrop te) tz D σ H := h H (Ex.refl H) _
theorem s_retR (h : Rz te σ H) : tRet te D σ H := h H (Ex.refl H) _
theorem q_asgR0 {i : Nat} (h : Rz te σ H) : tSeq (tAsg te (gName i)) tz D σ H := h H (Ex.refl H) _
/-- a call in a try, dropped -/
theorem s_dropS {sp : Sp} {E : L2.St → XK} {ta : TA} {vs : List V} (h : EvA ta σ H vs) (hs : ∀ H1, Ex H H1 → sp vs H1 (fun _ H2 => D.nx σ H2) (E σ)) : tDrop (tCallS sp E ta) D σ H := h H (Ex.refl H) _ fun H2 e2 => hs H2 e2
/-- what the clause wishes: the word is handed back -/
theorem word_wish {i : Nat} {c : Addr} {Wout : WX} {D : Ends} {ix : Nat} (hw : IsWord K c ix) (hix : ix < 6) (hi : i < σ.length) (k : ∀ H', Ex H H' → D.rt (.str (wordAt ix)) H') : wAs K (.ref (He.ga K "MoorError")) i (fun a cls d => tRet (tWord K a cls d (tVar i))) Wout D (.ref c) none σ H := by
  refine ⟨true, hw.moor, fun _ a na => ?_, fun z => by cases z⟩
  refine ⟨.ref a, ?_, rfl, c, ix, rfl, rfl, hix, hw, k⟩
  rw [List.getElem?_set_self hi]
theorem word_wish1 {i : Nat} {c : Addr} {Wout : WX} {D : Ends} {ix : Nat} (hw : IsWord K c ix) (hix : ix < 6) (hi : i < σ.length) (k : ∀ H', Ex H H' → D.rt (.str (wordAt ix)) H') : wAs K (.ref (He.ga K "MoorError")) i (fun a cls d => tRet (tWord K a cls d (tVar i))) Wout D (.ref c) none σ H := word_wish hw hix hi k
theorem q_whenN {b : Bool} (N : L2.St → Hp → Prop) (h : EvT t σ H b) (hk : ∀ σ' H', N σ' H' → tz D σ' H') (h1 : b = true → ∀ H1, Ex H H1 → (∀ σ' H', N σ' H' → tz D σ' H') → tu { D with nx := tz D } σ H1) (h2 : b = false → ∀ H1, Ex H H1 → N σ H1) : tSeq (tIfS t tu tNext) tz D σ H :=
  q_when h (fun hb H1 e1 => h1 hb H1 e1 hk) fun hb H1 e1 => hk _ _ (h2 hb H1 e1)
theorem q_ifN {tw : TS} {b : Bool} (N : L2.St → Hp → Prop) (h : EvT t σ H b) (hk : ∀ σ' H', N σ' H' → tz D σ' H') (h1 : b = true → ∀ H1, Ex H H1 → (∀ σ' H', N σ' H' → tz D σ' H') → tu { D with nx := tz D } σ H1) (h2 : b = false → ∀ H1, Ex H H1 → (∀ σ' H', N σ' H' → tz D σ' H') → tw { D with nx := tz D } σ H1) : tSeq (tIfS t tu tw) tz D σ H :=
  q_if h (fun hb H1 e1 => h1 hb H1 e1 hk) fun hb H1 e1 => h2 hb H1 e1 hk
theorem ev_isE {a D0 C : Addr} {b : Bool} (ha : Ev ta σ H (.ref a)) (hb : Ev tb σ H (.ref C)) (hk : PySem.W.kitOne K (.ref D0) (.ref C) = some b) : Ev (tCB (rIsE K D0 a) (tCons ta (tCons tb tNil))) σ H (.bl b) := fun H1 e Q q =>
  ha H1 e _ fun H2 e2 => hb H2 (e.trans e2) _ fun H3 e3 => ⟨.ref C, .ref C, b, rfl, fun u r => by cases r; rfl, hk, q H3 (e2.trans e3)⟩
theorem ev_isEV {a D0 : Addr} {b : Bool} (ha : Ev ta σ H (.ref a)) (hk : PySem.W.kitOne K (.ref D0) (.type "ValueError") = some b) : Ev (tCB (rIsE K D0 a) (tCons ta (tCons (tC (.ty "ValueError")) tNil))) σ H (.bl b) := fun H1 e Q q =>
  ha H1 e _ fun H2 e2 => ⟨.ty "ValueError", .type "ValueError", b, rfl, fun u r => by cases r; rfl, hk, q H2 e2⟩
theorem ev_cntB {p : Addr} {bs : List Bool} {k : Bool} (ha : Ev ta σ H (.ref p)) (hb : Ev tb σ H (.bl k)) (hS : H p = some (.lst (bs.map V.bl))) : Ev (tBM K "list" (rCntB K) ta (tCons tb tNil)) σ H (.int ((bs.count k : Nat) : Int)) := fun H1 e Q q =>
  ha H1 e _ fun H2 e2 => ⟨Or.inl ⟨rfl, _, sq_of (e2 _ _ (e _ _ hS))⟩, hb H2 (e.trans e2) _ fun H3 e3 => ⟨p, bs, k, rfl, rfl, sq_of (e3 _ _ (e2 _ _ (e _ _ hS))), q H3 (e2.trans e3)⟩⟩
def marks (i : Nat) : List Bool := (List.range 6).map fun j => decide (j = i)
theorem ev_idxB {p : Addr} {i : Nat} (hi : i < 6) (ha : Ev ta σ H (.ref p)) (hb : Ev tb σ H (.bl true)) (hS : H p = some (.lst ((marks i).map V.bl))) : Ev (tBM K "list" (rIndex K) ta (tCons tb tNil)) σ H (.int (i : Int)) := fun H1 e Q q =>
  ha H1 e _ fun H2 e2 => ⟨Or.inl ⟨rfl, _, sq_of (e2 _ _ (e _ _ hS))⟩, hb H2 (e.trans e2) _ fun H3 e3 => ⟨p, (marks i).map V.bl, .bl true, i, .bl true, rfl, rfl, sq_of (e3 _ _ (e2 _ _ (e _ _ hS))), rfl, by
    rw [List.all_map, List.all_eq_true]
    intro _ _
    rfl, by
    unfold marks
    rw [List.getElem?_map, List.getElem?_map, List.getElem?_range hi]
    show some (V.bl (decide (i = i))) = _
    rw [decide_eq_true rfl], rfl, fun m z hm hz => by
    unfold marks at hz
    rw [List.getElem?_map, List.getElem?_map, List.getElem?_range (by omega)] at hz
    cases hz
    show (decide (m = i) == true) = false
    rw [decide_eq_false (by omega)]
    rfl, q H3 (e2.trans e3)⟩⟩
end
end Wm

/-! MATH: mooring at a quay -/
namespace Wm
theorem snocInd {α : Type} {P : List α → Prop} (h0 : P []) (hs : ∀ l x, P l → P (l ++ [x])) : ∀ {l : List α}, P l := by
  intro l
  have key : ∀ m : List α, P m.reverse := by
    intro m
    induction m with
    | nil => exact h0
    | cons x m ih =>
      rw [List.reverse_cons]
      exact hs _ _ ih
  have := key l.reverse
  rw [List.reverse_reverse] at this
  exact this
/-- the first free place from w on -/
def firstFree (long : Nat) (tk : Nat → Bool) (w : Nat) : Option Nat := (List.range' w (long - w)).find? fun p => !tk p
def moorStep (long : Nat) (acc : List (Option Nat)) (w : Nat) : List (Option Nat) := acc ++ [firstFree long (fun p => decide (some p ∈ acc)) w]
def mooredL (long : Nat) (ws : List Nat) : List (Option Nat) := ws.foldl (moorStep long) []
theorem mooredL_snoc (long : Nat) (ws : List Nat) (w : Nat) : mooredL long (ws ++ [w]) = mooredL long ws ++ [firstFree long (fun p => decide (some p ∈ mooredL long ws)) w] := by
  unfold mooredL
  rw [List.foldl_append]
  rfl
theorem mooredL_take {long : Nat} {ws : List Nat} {i w : Nat} (h : ws[i]? = some w) : mooredL long (ws.take (i + 1)) = mooredL long (ws.take i) ++ [firstFree long (fun p => decide (some p ∈ mooredL long (ws.take i))) w] := by
  rw [List.take_add_one, h]
  exact mooredL_snoc long (ws.take i) w
theorem foldl_len (long : Nat) : ∀ (ws : List Nat) (acc : List (Option Nat)), (ws.foldl (moorStep long) acc).length = acc.length + ws.length
  | [], acc => rfl
  | w :: ws, acc => by
    show (ws.foldl (moorStep long) (moorStep long acc w)).length = _
    rw [foldl_len long ws]
    unfold moorStep
    rw [List.length_append, List.length_cons, List.length_cons, List.length_nil]
    omega
theorem mooredL_len (long : Nat) (ws : List Nat) : (mooredL long ws).length = ws.length := by
  unfold mooredL
  rw [foldl_len]
  exact Nat.zero_add _
/-- what firstFree finds -/
theorem firstFree_some {long w p : Nat} {tk : Nat → Bool} (h : firstFree long tk w = some p) : w ≤ p ∧ p < long ∧ tk p = false ∧ ∀ q, w ≤ q → q < p → tk q = true := by
  unfold firstFree at h
  obtain ⟨h1, i, hi, e, hlt⟩ := List.find?_eq_some_iff_getElem.mp h
  rw [List.getElem_range'] at e
  rw [List.length_range'] at hi
  refine ⟨by omega, by omega, by simpa using h1, fun q hq hqp => ?_⟩
  have h2 := hlt (q - w) (by omega)
  rw [List.getElem_range'] at h2
  have e2 : w + 1 * (q - w) = q := by omega
  rw [e2] at h2
  simpa using h2
theorem firstFree_none {long w : Nat} {tk : Nat → Bool} (h : firstFree long tk w = none) : ∀ q, w ≤ q → q < long → tk q = true := by
  unfold firstFree at h
  intro q hq hl
  have h2 := List.find?_eq_none.mp h q (by rw [List.mem_range'_1]; omega)
  simpa using h2
theorem firstFree_is {long w p : Nat} {tk : Nat → Bool} (h1 : w ≤ p) (h2 : p < long) (h3 : tk p = false) (h4 : ∀ q, w ≤ q → q < p → tk q = true) : firstFree long tk w = some p := by
  cases e : firstFree long tk w with
  | none =>
    have := firstFree_none e p h1 h2
    rw [h3] at this
    cases this
  | some q =>
    obtain ⟨a, b, c, d⟩ := firstFree_some e
    by_cases hlt : q < p
    · rw [h4 q a hlt] at c
      cases c
    · by_cases hgt : p < q
      · rw [d p h1 hgt] at h3
        cases h3
      · have : q = p := by omega
        rw [this]
theorem firstFree_isNone {long w : Nat} {tk : Nat → Bool} (h : ∀ q, w ≤ q → q < long → tk q = true) : firstFree long tk w = none := by
  cases e : firstFree long tk w with
  | none => rfl
  | some p =>
    obtain ⟨a, b, c, d⟩ := firstFree_some e
    rw [h p a b] at c
    cases c
theorem mooredL_lt {long : Nat} {ws : List Nat} : ∀ {p : Nat}, some p ∈ mooredL long ws → p < long := by
  refine snocInd (P := fun ws => ∀ {p : Nat}, some p ∈ mooredL long ws → p < long) (fun h => by cases h) (fun ws w ih => ?_)
  · intro p h
    rw [mooredL_snoc, List.mem_append, List.mem_singleton] at h
    rcases h with h | h
    · exact ih h
    · exact (firstFree_some h.symm).2.1
end Wm

/-! MATH: outcomes and their spans -/
namespace Wm
def leastF (tk : Nat → Bool) : Nat → Nat
  | 0 => 0
  | p + 1 => if tk p then leastF tk p else p + 1
theorem leastF_le (tk : Nat → Bool) : ∀ p, leastF tk p ≤ p
  | 0 => Nat.le_refl _
  | p + 1 => by
    unfold leastF
    have := leastF_le tk p
    split <;> omega
/-- all places from the least to p are taken, the one ahead of it is not -/
theorem leastF_tk (tk : Nat → Bool) : ∀ p q, leastF tk p ≤ q → q < p → tk q = true
  | 0, q, _, h => absurd h (Nat.not_lt_zero _)
  | p + 1, q, h1, h2 => by
    unfold leastF at h1
    cases e : tk p with
    | true =>
      rw [e, if_pos rfl] at h1
      by_cases eq : q = p
      · rw [eq]
        exact e
      · exact leastF_tk tk p q h1 (by omega)
    | false =>
      rw [e] at h1
      simp only [Bool.false_eq_true, if_false] at h1
      omega
theorem leastF_stop (tk : Nat → Bool) : ∀ p l, leastF tk p = l + 1 → tk l = false
  | 0, l, h => by
    have : 0 = l + 1 := h
    omega
  | p + 1, l, h => by
    unfold leastF at h
    cases e : tk p with
    | true =>
      rw [e, if_pos rfl] at h
      exact leastF_stop tk p l h
    | false =>
      rw [e] at h
      simp only [Bool.false_eq_true, if_false] at h
      have : p = l := by omega
      rw [← this]
      exact e
structure Outcome (ps : List Nat) : Prop where
  lo : 1 ≤ ps.length
  hi : ps.length ≤ 40
  perm : ps.Perm (List.range ps.length)
theorem Outcome.lt {ps : List Nat} (h : Outcome ps) : ∀ p ∈ ps, p < ps.length := fun p hp => List.mem_range.mp (h.perm.mem_iff.mp hp)
theorem Outcome.nodup {ps : List Nat} (h : Outcome ps) : ps.Nodup := h.perm.nodup_iff.mpr List.nodup_range
/-- the least wish of boat b -/
def spanAt (ps : List Nat) (b : Nat) : Nat := leastF (fun q => decide (q ∈ ps.take b)) (ps.getD b 0)
theorem spanAt_le (ps : List Nat) (b : Nat) : spanAt ps b ≤ ps.getD b 0 := leastF_le _ _
def waysTo (ps : List Nat) : Nat → Nat
  | 0 => 1
  | b + 1 => waysTo ps b * (ps.getD b 0 - spanAt ps b + 1)
def waysL (ps : List Nat) : Nat := waysTo ps ps.length
end Wm

/-! MATH: which rows lead to an outcome -/
namespace Wm
theorem leads_step {n p w : Nat} {acc : List Nat} (hp : p < n) (hn : p ∉ acc) : firstFree n (fun q => decide (some q ∈ acc.map some)) w = some p ↔ leastF (fun q => decide (q ∈ acc)) p ≤ w ∧ w ≤ p := by
  have hm : ∀ q, (some q ∈ acc.map some) ↔ q ∈ acc := fun q => by
    constructor
    · intro h
      obtain ⟨x, hx, e⟩ := List.mem_map.mp h
      rw [← Option.some.inj e]
      exact hx
    · intro h
      exact List.mem_map.mpr ⟨q, h, rfl⟩
  constructor
  · intro h
    obtain ⟨a, b, c, d⟩ := firstFree_some h
    refine ⟨?_, a⟩
    by_cases hl : leastF (fun q => decide (q ∈ acc)) p ≤ w
    · exact hl
    · exfalso
      have hle := leastF_le (fun q => decide (q ∈ acc)) p
      obtain ⟨l, hl2⟩ : ∃ l, leastF (fun q => decide (q ∈ acc)) p = l + 1 := ⟨leastF (fun q => decide (q ∈ acc)) p - 1, by omega⟩
      have h1 := leastF_stop _ p l hl2
      have h2 := d l (by omega) (by omega)
      have h3 := (hm l).mp (of_decide_eq_true h2)
      exact of_decide_eq_false h1 h3
  · rintro ⟨h1, h2⟩
    refine firstFree_is h2 hp (decide_eq_false fun h => hn ((hm p).mp h)) fun q h3 h4 => decide_eq_true ((hm q).mpr ?_)
    exact of_decide_eq_true (leastF_tk (fun q => decide (q ∈ acc)) p q (Nat.le_trans h1 h3) h4)
/-- the wishes of the first b boats lie in their spans -/
def InSpans (ps ws : List Nat) (b : Nat) : Prop := ∀ i, i < b → spanAt ps i ≤ ws.getD i 0 ∧ ws.getD i 0 ≤ ps.getD i 0
theorem getD_some {l : List Nat} {i : Nat} (h : i < l.length) : l[i]? = some (l.getD i 0) := by
  rw [List.getD_eq_getElem?_getD, List.getElem?_eq_getElem h]
  rfl
theorem nodup_take_not {l : List Nat} (h : l.Nodup) {i : Nat} (hi : i < l.length) : l.getD i 0 ∉ l.take i := by
  have h3 : (l.take (i + 1)).Nodup := h.sublist (List.take_sublist _ _)
  rw [List.take_add_one, getD_some hi] at h3
  intro hc
  exact (List.nodup_append.mp h3).2.2 _ hc _ (List.mem_singleton.mpr rfl) rfl
theorem leads_take {ps ws : List Nat} (h : Outcome ps) (hl : ws.length = ps.length) : ∀ b, b ≤ ps.length → (mooredL ps.length (ws.take b) = (ps.take b).map some ↔ InSpans ps ws b)
  | 0, _ => ⟨fun _ i hi => absurd hi (Nat.not_lt_zero _), fun _ => rfl⟩
  | b + 1, hb => by
    have ih := leads_take h hl b (by omega)
    have hw : ws[b]? = some (ws.getD b 0) := getD_some (by omega)
    have hp : ps[b]? = some (ps.getD b 0) := getD_some (by omega)
    have hnp := nodup_take_not h.nodup (i := b) (by omega)
    have hlt : ps.getD b 0 < ps.length := h.lt _ (List.mem_of_getElem? hp)
    rw [mooredL_take hw, List.take_add_one (l := ps), hp, List.map_append]
    have sp : InSpans ps ws (b + 1) ↔ InSpans ps ws b ∧ spanAt ps b ≤ ws.getD b 0 ∧ ws.getD b 0 ≤ ps.getD b 0 := by
      constructor
      · intro q
        exact ⟨fun i hi => q i (by omega), q b (by omega)⟩
      · rintro ⟨q1, q2⟩ i hi
        by_cases e : i = b
        · rw [e]
          exact q2
        · exact q1 i (by omega)
    rw [sp, ← ih]
    constructor
    · intro e
      obtain ⟨e1, e2⟩ := List.append_inj e (by rw [mooredL_len, List.length_map, List.length_take, List.length_take]; omega)
      rw [e1] at e2
      exact ⟨e1, (leads_step hlt hnp).mp (List.cons.inj e2).1⟩
    · rintro ⟨e1, e2⟩
      rw [e1, (leads_step hlt hnp).mpr e2]
      rfl
theorem leads_iff {ps ws : List Nat} (h : Outcome ps) (hl : ws.length = ps.length) : mooredL ps.length ws = ps.map some ↔ InSpans ps ws ps.length := by
  have := leads_take h hl ps.length (Nat.le_refl _)
  rw [List.take_length, ← hl, List.take_length, hl] at this
  exact this
end Wm

/-! ### lists of pairs; the search for the least wish; sorted; list(range(n)) -/
namespace Wm
open PySem PySem.Spec PyProof.Rows L2 Evl
section
variable {K : Kf} {σ : L2.St} {H H' : Hp} {ta tb te tl tx : TE} {t u : TT} {x y z v : V} {D : Ends} {tz tu : TS}
theorem sorted_same {l m : List Int} (h : l.Perm m) (a : l.Pairwise (· ≤ ·)) (b : m.Pairwise (· ≤ ·)) : l = m := h.eq_of_pairwise (fun x y _ _ p q => Int.le_antisymm p q) a b
theorem el_sorted {a : Addr} {ns m : List Int} (h : Ev ta σ H (.ref a)) (hx : SqL K H a (ns.map V.int)) (hu : ∀ s : List Int, s.Perm ns → s.Pairwise (· ≤ ·) → s = m) : EvL (tCB (rSortedI K) (tCons ta tNil)) σ H (m.map V.int) := fun H1 e Q q =>
  h H1 e _ fun H2 e2 => ⟨a, ns, rfl, ex_l (e.trans e2) hx, fun s p h1 h2 np => by
    rw [hu s h1 h2]
    exact q p _ (fresh_back e2 np) (e2.trans (Ex.new np)) upd_same⟩
theorem lp_sorted {P : List V → Prop} (h : EvLP ta σ H P) (hP : ∀ xs, P xs → ∃ ns : List Int, xs = ns.map V.int) : EvLP (tCB (rSortedI K) (tCons ta tNil)) σ H (fun ys => ∃ ns s : List Int, P (ns.map V.int) ∧ ys = s.map V.int ∧ s.Perm ns ∧ s.Pairwise (· ≤ ·)) := fun H1 e Q q =>
  h H1 e _ fun a xs H2 na e2 hx hp => by
    obtain ⟨ns, rfl⟩ := hP xs hp
    exact ⟨a, ns, rfl, sq_of hx, fun s p h1 h2 np => q p _ _ (fresh_back e2 np) (e2.trans (Ex.new np)) upd_same ⟨ns, s, hp, rfl, h1, h2⟩⟩
theorem el_listRg {n : Nat} (h : Ev te σ H (.int (n : Int))) (hn : n ≤ 100000) : EvL (tLstRg (tRg1 te)) σ H (vn (List.range n)) := fun H1 e Q q =>
  h H1 e _ fun H2 e2 => ⟨(n : Int), rfl, ⟨by decide, by decide, by omega, by omega, by omega⟩, fun p np => q p _ (fresh_back e2 np) (e2.trans (Ex.new np)) (by
    rw [upd_same]
    have e3 : rgV 0 (n : Int) = vn (List.range n) := by
      unfold rgV vn
      rw [show ((n : Int) - 0).toNat = n by omega]
      refine List.map_congr_left fun i _ => ?_
      rw [Int.zero_add]
    rw [e3])⟩
theorem el_lstRev {a : Addr} {xs : List V} (h : Ev te σ H (.ref a)) (hx : SqL K H a xs) : EvL (tLstRev K te) σ H xs.reverse := fun H1 e Q q =>
  h H1 e _ fun H2 e2 => ⟨a, xs, rfl, ex_l (e.trans e2) hx, fun p np => q p _ (fresh_back e2 np) (e2.trans (Ex.new np)) upd_same⟩
/-- key -1 is none of them -/
theorem valV_tkR_neg (l : List Nat) : (valV (tkR l) (Sum.inl (-1) : Key)).isSome = false := by
  rw [← valV_any]
  unfold tkR
  rw [List.any_map, List.any_eq_false]
  intro p _ h
  have h2 : decide ((Sum.inl (p : Int) : Key) = Sum.inl (-1)) = true := h
  have e : (p : Int) = -1 := Sum.inl.inj (of_decide_eq_true h2)
  omega
/-- while least - 1 in taken: least = least - 1 -/
theorem q_least {L ds p : Nat} {da : Addr} {acc : List Nat} (hL : L < σ.length) (hne : ds ≠ L) (hd : σ[ds]? = some (some (.ref da))) (hH : H da = some (.dK (tkR acc))) (h0 : σ.set L (some (.int (p : Int))) = σ)
    (k : ∀ H1, Ex H H1 → tz D (σ.set L (some (.int (leastF (fun q => decide (q ∈ acc)) p : Int)))) H1) :
    tSeq (tWhile (tB (tDIn (tOp (rI0 fun i j => V.int (i - j)) (tVar L) (tC (.int 1))) (tVar ds))) (tAsg (tOp (rI0 fun i j => V.int (i - j)) (tVar L) (tC (.int 1))) (gName L))) tz D σ H := by
  have at1 : ∀ v : V, (σ.set L (some v))[L]? = some (some v) := fun v => by rw [List.getElem?_set_self hL]
  have at2 : ∀ v : V, (σ.set L (some v))[ds]? = some (some (.ref da)) := fun v => by rw [List.getElem?_set_ne (Ne.symm hne)]; exact hd
  refine q_while (fun m σ' H' => ∃ l : Nat, m = l ∧ leastF (fun q => decide (q ∈ acc)) l = leastF (fun q => decide (q ∈ acc)) p ∧ σ' = σ.set L (some (.int (l : Int))) ∧ Ex H H') p ⟨p, rfl, rfl, h0.symm, Ex.refl _⟩ ?_
  rintro m σ' H1 ⟨l, rfl, e, rfl, e1⟩
  have hd1 := e1 _ _ hH
  cases m with
  | zero =>
    refine ⟨false, et_is (et_B (ev_din (k := -1) (ev_is (ev_op (ev_var (at1 _)) ev_c rv_I0) rfl) (ev_var (at2 _)) hd1)) (valV_tkR_neg acc), (fun h => by cases h), fun _ H2 e2 => ?_⟩
    have e0 : (0 : Nat) = leastF (fun q => decide (q ∈ acc)) p := e
    have := k H2 (e1.trans e2)
    rw [← e0] at this
    exact this
  | succ l =>
    have ek : ((l + 1 : Nat) : Int) - 1 = (l : Int) := by omega
    have hv : Ev (tOp (rI0 fun i j => V.int (i - j)) (tVar L) (tC (.int 1))) (σ.set L (some (.int ((l + 1 : Nat) : Int)))) H1 (.int (l : Int)) := ev_is (ev_op (ev_var (at1 _)) ev_c rv_I0) (congrArg V.int ek)
    refine ⟨decide (l ∈ acc), et_is (et_B (ev_din (k := (l : Int)) hv (ev_var (at2 _)) hd1)) (valV_tkR acc l), fun hb H2 e2 => ?_, fun hb H2 e2 => ?_⟩
    · refine ⟨fun σ2 H3 => σ2 = σ.set L (some (.int (l : Int))) ∧ Ex H H3, ?_, ?_⟩
      · rintro σ2 H3 ⟨rfl, e3⟩
        refine ⟨l, Nat.lt_succ_self l, l, rfl, ?_, rfl, e3⟩
        rw [← e]
        show _ = if decide (l ∈ acc) = true then _ else _
        rw [if_pos hb]
      · refine s_asg (hv.mono e2) fun H3 e3 => ⟨?_, (e1.trans e2).trans e3⟩
        rw [List.set_set]
    · have e0 : l + 1 = leastF (fun q => decide (q ∈ acc)) p := by
        rw [← e]
        show _ = if decide (l ∈ acc) = true then _ else _
        rw [if_neg (by rw [hb]; decide)]
      have := k H2 (e1.trans e2)
      rw [← e0] at this
      exact this
/-- a new list of new pairs, handed back -/
def RetM (mk : List V → HO) (rs : List (List V)) (H : Hp) (Q : VK) : Prop := ∀ p ps H2, H p = none → Ex H H2 → H2 p = some (.lst (ps.map V.ref)) → MAt mk H2 ps rs → Q (.ref p) H2
theorem em_call {mk : List V → HO} {sp : Sp} {E : XK} {ta : TA} {vs : List V} {rs : List (List V)} (h : EvA ta σ H vs) (hs : ∀ H1, Ex H H1 → ∀ Q : VK, RetM mk rs H1 Q → ∀ E : XK, sp vs H1 Q E) : EvM mk (tCall sp [] E ta) σ H rs := fun H1 e Q q =>
  h H1 e _ fun H2 e2 => by
    rw [List.append_nil]
    exact hs H2 (e.trans e2) Q (fun p ps H3 hp e3 h3 h4 => q p ps H3 (fresh_back e2 hp) (e2.trans e3) h3 h4) E
theorem s_asgM {mk : List V → HO} {i : Nat} {rs : List (List V)} (h : EvM mk te σ H rs) (k : ∀ p ps H1, H p = none → Ex H H1 → H1 p = some (.lst (ps.map V.ref)) → MAt mk H1 ps rs → D.nx (σ.set i (some (.ref p))) H1) : tAsg te (gName i) D σ H := h H (Ex.refl H) _ k
theorem q_asgM {mk : List V → HO} {i : Nat} {rs : List (List V)} (h : EvM mk te σ H rs) (k : ∀ p ps H1, H p = none → Ex H H1 → H1 p = some (.lst (ps.map V.ref)) → MAt mk H1 ps rs → tz D (σ.set i (some (.ref p))) H1) : tSeq (tAsg te (gName i)) tz D σ H := s_asgM (D := { D with nx := tz D }) h k
/-- for a, b in (a list of pairs) -/
theorem s_forPairs {i j n : Nat} {a : Addr} {ps : List Addr} {f g : Nat → Int} (h : Ev tl σ H (.ref a)) (hx : H a = some (.lst (ps.map V.ref))) (hm : MAt HO.tup H ps ((List.range n).map fun b => [V.int (f b), V.int (g b)]))
    (Pv : Nat → L2.St → Hp → Prop) (hex : ∀ b σ' H', Pv b σ' H' → Ex H H') (h0 : ∀ H1, Ex H H1 → Pv 0 σ H1)
    (hs : ∀ b σ' H', b < n → Pv b σ' H' → tu { D with nx := Pv (b + 1), ct := Pv (b + 1), bk := D.nx } ((σ'.set i (some (.int (f b)))).set j (some (.int (g b)))) H') (hd : ∀ σ' H', Pv n σ' H' → D.nx σ' H') :
    tFor (iList K tl) (gTup K 2 (gCons (gName i) (gCons (gName j) gNil))) tu D σ H := by
  have hl : (ps.map V.ref).length = n := by
    rw [List.length_map, hm.len, List.length_map, List.length_range]
  refine s_forL (K := K) (a := a) (xs := ps.map V.ref) h (sq_of hx) Pv h0 (fun b σ' H' _ p => sq_of (hex _ _ _ p _ _ hx)) (fun b x σ' H' hb p => ?_) (by rw [hl]; exact hd)
  rw [List.getElem?_map] at hb
  cases hp : ps[b]? with
  | none =>
    rw [hp] at hb
    cases hb
  | some q =>
    rw [hp] at hb
    cases hb
    obtain ⟨r, hr, h3⟩ := hm.get hp
    rw [List.getElem?_map] at hr
    have hbn : b < n := by
      have := (List.getElem?_eq_some_iff.mp hp).1
      rw [List.length_map] at hl
      omega
    rw [List.getElem?_range hbn] at hr
    cases hr
    exact ⟨q, _, rfl, st_of (hex _ _ _ p _ _ h3), rfl, .int (f b), [.int (g b)], rfl, .int (g b), [], rfl, rfl, hs b σ' H' hbn p⟩
theorem q_forPairs {i j n : Nat} {a : Addr} {ps : List Addr} {f g : Nat → Int} (h : Ev tl σ H (.ref a)) (hx : H a = some (.lst (ps.map V.ref))) (hm : MAt HO.tup H ps ((List.range n).map fun b => [V.int (f b), V.int (g b)]))
    (Pv : Nat → L2.St → Hp → Prop) (hex : ∀ b σ' H', Pv b σ' H' → Ex H H') (h0 : ∀ H1, Ex H H1 → Pv 0 σ H1)
    (hs : ∀ b σ' H', b < n → Pv b σ' H' → tu { D with nx := Pv (b + 1), ct := Pv (b + 1), bk := tz D } ((σ'.set i (some (.int (f b)))).set j (some (.int (g b)))) H') (hd : ∀ σ' H', Pv n σ' H' → tz D σ' H') :
    tSeq (tFor (iList K tl) (gTup K 2 (gCons (gName i) (gCons (gName j) gNil))) tu) tz D σ H := s_forPairs (D := { D with nx := tz D }) h hx hm Pv hex h0 hs hd
/-- the same over a list made on the way -/
theorem s_forPairsN {i j n : Nat} {f g : Nat → Int} (h : EvM HO.tup tl σ H ((List.range n).map fun b => [V.int (f b), V.int (g b)]))
    (Pv : Hp → Nat → L2.St → Hp → Prop) (hex : ∀ Hb b σ' H', Pv Hb b σ' H' → Ex Hb H') (h0 : ∀ H1, Ex H H1 → Pv H1 0 σ H1)
    (hs : ∀ Hb b σ' H', b < n → Pv Hb b σ' H' → tu { D with nx := Pv Hb (b + 1), ct := Pv Hb (b + 1), bk := D.nx } ((σ'.set i (some (.int (f b)))).set j (some (.int (g b)))) H') (hd : ∀ Hb σ' H', Pv Hb n σ' H' → D.nx σ' H') :
    tFor (iList K tl) (gTup K 2 (gCons (gName i) (gCons (gName j) gNil))) tu D σ H := h H (Ex.refl H) _ fun a ps H1 na e1 hx hm => by
  have hl : (ps.map V.ref).length = n := by
    rw [List.length_map, hm.len, List.length_map, List.length_range]
  refine ⟨a, rfl, ⟨_, sq_of hx⟩, for_list (Pv H1) (h0 H1 e1) (fun b σ' H' _ p => sq_of (hex _ _ _ _ p _ _ hx)) (fun b x σ' H' hb p => ?_) (by rw [hl]; exact hd H1)⟩
  rw [List.getElem?_map] at hb
  cases hp : ps[b]? with
  | none =>
    rw [hp] at hb
    cases hb
  | some q =>
    rw [hp] at hb
    cases hb
    obtain ⟨r, hr, h3⟩ := hm.get hp
    rw [List.getElem?_map] at hr
    have hbn : b < n := by
      have := (List.getElem?_eq_some_iff.mp hp).1
      rw [List.length_map] at hl
      omega
    rw [List.getElem?_range hbn] at hr
    cases hr
    exact ⟨q, _, rfl, st_of (hex _ _ _ _ p _ _ h3), rfl, .int (f b), [.int (g b)], rfl, .int (g b), [], rfl, rfl, hs H1 b σ' H' hbn p⟩
theorem q_forPairsN {i j n : Nat} {f g : Nat → Int} (h : EvM HO.tup tl σ H ((List.range n).map fun b => [V.int (f b), V.int (g b)]))
    (Pv : Hp → Nat → L2.St → Hp → Prop) (hex : ∀ Hb b σ' H', Pv Hb b σ' H' → Ex Hb H') (h0 : ∀ H1, Ex H H1 → Pv H1 0 σ H1)
    (hs : ∀ Hb b σ' H', b < n → Pv Hb b σ' H' → tu { D with nx := Pv Hb (b + 1), ct := Pv Hb (b + 1), bk := tz D } ((σ'.set i (some (.int (f b)))).set j (some (.int (g b)))) H') (hd : ∀ Hb σ' H', Pv Hb n σ' H' → tz D σ' H') :
    tSeq (tFor (iList K tl) (gTup K 2 (gCons (gName i) (gCons (gName j) gNil))) tu) tz D σ H := s_forPairsN (D := { D with nx := tz D }) h Pv hex h0 hs hd
/-- pairs stand while no tuple changes -/
theorem mat_upd {q : Addr} {o : HO} (hq : ∀ xs, H q ≠ some (.tup xs)) : ∀ {ps : List Addr} {rs : List (List V)}, MAt HO.tup H ps rs → MAt HO.tup (upd H q o) ps rs
  | _, _, .nil => .nil
  | _, _, .cons h t => .cons (by
      rw [upd_ne (fun z => hq _ (z ▸ h))]
      exact h) (mat_upd hq t)
theorem mat_lst {q : Addr} {o : HO} {xs : List V} (hq : H q = some (.lst xs)) {ps : List Addr} {rs : List (List V)} (h : MAt HO.tup H ps rs) : MAt HO.tup (upd H q o) ps rs := mat_upd (fun ys z => by rw [hq] at z; cases z) h
theorem mat_dk {q : Addr} {o : HO} {kvs : List (Key × V)} (hq : H q = some (.dK kvs)) {ps : List Addr} {rs : List (List V)} (h : MAt HO.tup H ps rs) : MAt HO.tup (upd H q o) ps rs := mat_upd (fun ys z => by rw [hq] at z; cases z) h
theorem ev_lenT {p : Addr} {xs : List V} (ha : Ev ta σ H (.ref p)) (h : SqT K H p xs) : Ev (tCB (rLenS K) (tCons ta tNil)) σ H (.int (xs.length : Int)) := fun H1 e Q q =>
  ha H1 e _ fun H2 e2 => ⟨p, xs, rfl, Or.inr (ex_t (e.trans e2) h), q H2 e2⟩
theorem shaped_tup {xs : List V} (h : xs.all fl2 = true) : SeqAt.shaped (.tuple (xs.map vD)) = true := by
  unfold SeqAt.shaped
  rw [Bool.and_eq_true, decide_eq_true_eq]
  refine ⟨canLayAll_fl2 h, ?_⟩
  have h1 := depthAll_fl2 h
  simp only [PyData.depth]
  omega
theorem rv_neT {p q : Addr} {xs ys : List V} (hp : SqT K H p xs) (hq : SqT K H q ys) (fx : xs.all fl3 = true) (fy : ys.all fl3 = true) : RV (rNeD K) (.ref p) (.ref q) H (.bl (!decide (xs = ys))) := fun H1 e Q k =>
  ⟨_, _, .tup (ex_t e hp) (dpAll_flat (all_flat1 (fl3_0 fx))), .tup (ex_t e hq) (dpAll_flat (all_flat1 (fl3_0 fy))), shaped_tup (fl3_2 fx), shaped_tup (fl3_2 fy), by
    rw [show PyData.eqv (.tuple (xs.map vD)) (.tuple (ys.map vD)) = decide (xs = ys) by rw [PyData.eqv]; exact eqvAll_fl0 (fl3_0 fx) (fl3_0 fy)]
    exact k H1 (Ex.refl H1)⟩
theorem perm_nat {s : List Int} {l : List Nat} (h : s.Perm (l.map Int.ofNat)) : ∃ m : List Nat, s = m.map Int.ofNat ∧ m.Perm l := by
  refine ⟨s.map Int.toNat, ?_, ?_⟩
  · rw [List.map_map]
    have e : s.map (Int.ofNat ∘ Int.toNat) = s.map id := by
      refine List.map_congr_left fun x hx => ?_
      obtain ⟨k, _, rfl⟩ := List.mem_map.mp (h.mem_iff.mp hx)
      rfl
    rw [e, List.map_id]
  · have h2 := h.map Int.toNat
    rw [List.map_map] at h2
    have e : l.map (Int.toNat ∘ Int.ofNat) = l.map id := List.map_congr_left fun _ _ => rfl
    rw [e, List.map_id] at h2
    exact h2
theorem lp_sortedN {l : List Nat} (h : EvL ta σ H (vn l)) : EvLP (tCB (rSortedI K) (tCons ta tNil)) σ H (fun ys => ∃ m, ys = vn m ∧ m.Perm l) := fun H1 e Q q =>
  h H1 e _ fun a H2 na e2 hx => ⟨a, l.map Int.ofNat, rfl, by rw [← vn_ints]; exact sq_of hx, fun s p h1 h2 np => by
    obtain ⟨m, rfl, hm⟩ := perm_nat h1
    exact q p _ _ (fresh_back e2 np) (e2.trans (Ex.new np)) upd_same ⟨m, vn_ints m ▸ rfl, hm⟩⟩
end
end Wm

namespace Wm
open PySem PySem.Spec PyProof.Rows L2 Evl
def top (i : Nat) : Stmt := PySem.Challenge.pw_wishmoor_k12_refused_outcomes.main.body.getD i (.Pass ⟨0, 0, 0, 0⟩)
section
variable {P : Program} {w : World} {K : Kf} {mg : Mg} {base : Heap}
abbrev s_l_cell_at : Stmt := top 14
abbrev N_l_cell_at : List Str := ["script", "k"]
theorem sc_l_cell_at : FnScope N_l_cell_at ["script", "k"] (defScope s_l_cell_at) := ⟨rfl, rfl, rfl, by decide +kernel, rfl, by decide +kernel, by decide +kernel⟩
theorem bw_l_cell_at : BindsWell "_law_cell_at" s_l_cell_at ["script", "k"] := fun _ _ _ _ _ _ us hl => match us, hl with | [_, _], _ => rfl

def cellAt (ns : List Int) (z : Int) : Int := if z < ns.length then ns.getD z.toNat 0 else 0
def sp_l_cell_at (K : Kf) : Sp := fun vs H Q _ => ∃ (a : Addr) (ns : List Int) (z : Int), vs = [.ref a, .int z] ∧ SqL K H a (ns.map V.int) ∧ 0 ≤ z ∧ RetV (.int (cellAt ns z)) H Q
theorem sv_cell {K : Kf} {σ : L2.St} {H : Hp} {E : XK} {ta : TA} {a : Addr} {ns : List Int} {z : Int} (h : EvA ta σ H [.ref a, .int z]) (hS : SqL K H a (ns.map V.int)) (hz : 0 ≤ z) : Ev (tCall (sp_l_cell_at K) [] E ta) σ H (.int (cellAt ns z)) :=
  ev_callV h fun H1 e Q q E => ⟨a, ns, z, rfl, ex_l e hS, hz, q⟩
local macro_rules | `(tactic| walk_at "call") => `(tactic| ((with_reducible refine' Wm.sv_cell ?ha ?hb ?hc); (case ha => walk_at "ea"); (case hb => walk_at "sq"); (case hc => omega)))
theorem ok_l_cell_at (D : Def K mg "_law_cell_at" s_l_cell_at) (T : Txt mg)  : Own P w K mg base CX0 1 "_law_cell_at" ["script", "k"] (sp_l_cell_at K) := by
  refine D.calm sc_l_cell_at bw_l_cell_at (fun vs H Q E h => ?_) (fun f cdv A outer s H vs Q E hr h => ?_)
  · obtain ⟨a, ns, z, rfl, _⟩ := h
    rfl
  · obtain ⟨a, ns, z, rfl, hS, hz, kQ⟩ := h
    refine ⟨_, (pss_cons (ps_if (pt_cmpR op_lt (pv 1) (pe_callB cr_len (by rfl) T.len PySem.boot_len (pa_cons (pv 0) pa_nil)) (nomark _))
        (pss_one (ps_ret (pe_ix ix_list (pv 0) (pv 1) (fun _ _ => rfl))))
        pss_nil)
        (pss_one (ps_ret pe_int))), ?_⟩
    try dsimp only [cxOf]
    refine q_when (by walk_at "et") (fun hb H1 e1 => ?_) (fun hb H1 e1 => ?_)
    · have hz2 := of_decide_eq_true hb
      rw [List.length_map] at hz2
      refine s_ret (by walk_at "ev") fun H2 e2 => ?_
      have hk := kQ H2 (by walk_at "ex")
      unfold cellAt at hk
      rw [if_pos hz2] at hk
      exact hk
    · have hz2 := of_decide_eq_false hb
      rw [List.length_map] at hz2
      refine s_ret (by walk_at "ev") fun H2 e2 => ?_
      have hk := kQ H2 (by walk_at "ex")
      unfold cellAt at hk
      rw [if_neg hz2] at hk
      exact hk

abbrev s_l_shuffled : Stmt := top 15
abbrev N_l_shuffled : List Str := ["script", "first", "size", "order", "k", "number"]
theorem sc_l_shuffled : FnScope N_l_shuffled ["script", "first", "size"] (defScope s_l_shuffled) := ⟨rfl, rfl, rfl, by decide +kernel, rfl, by decide +kernel, by decide +kernel⟩
theorem bw_l_shuffled : BindsWell "_law_shuffled" s_l_shuffled ["script", "first", "size"] := fun _ _ _ _ _ _ us hl => match us, hl with | [_, _, _], _ => rfl

def sp_l_shuffled (K : Kf) : Sp := fun vs H Q _ => ∃ (a : Addr) (ns : List Int) (z : Int) (n : Nat), vs = [.ref a, .int z, .int (n : Int)] ∧ SqL K H a (ns.map V.int) ∧ 0 ≤ z ∧ n ≤ 1000 ∧ ∀ l : List Nat, l.Perm (List.range n) → RetL (vn l) H Q
theorem sv_shuffled {K : Kf} {σ : L2.St} {H : Hp} {E : XK} {ta : TA} {a : Addr} {ns : List Int} {z : Int} {n : Nat} (h : EvA ta σ H [.ref a, .int z, .int (n : Int)]) (hS : SqL K H a (ns.map V.int)) (hz : 0 ≤ z) (hn : n ≤ 1000) : EvLP (tCall (sp_l_shuffled K) [] E ta) σ H (fun xs => ∃ l : List Nat, xs = vn l ∧ l.Perm (List.range n)) :=
  lp_call h fun H1 e Q q E => ⟨a, ns, z, n, rfl, ex_l e hS, hz, hn, fun l hl => q _ ⟨l, rfl, hl⟩⟩
theorem ok_l_shuffled (D : Def K mg "_law_shuffled" s_l_shuffled) (T : Txt mg) (O_l_cell_at : Own P w K mg base CX0 1 "_law_cell_at" ["script", "k"] (sp_l_cell_at K)) : Own P w K mg base CX0 2 "_law_shuffled" ["script", "first", "size"] (sp_l_shuffled K) := by
  refine D.calm sc_l_shuffled bw_l_shuffled (fun vs H Q E h => ?_) (fun f cdv A outer s H vs Q E hr h => ?_)
  · obtain ⟨a, ns, z, n, rfl, _⟩ := h
    rfl
  · obtain ⟨a, ns, z, n, rfl, hS, hz, hn, kQ⟩ := h
    have hr_l_cell_at : Room 1 _ := hr.mono (by decide)
    refine ⟨_, (pss_cons (ps_set (i := 3) sc_l_shuffled.nd rfl (Or.inl rfl) (pe_callB cr_sortedPO (by rfl) T.sorted (by decide +kernel) (pa_cons (pe_lc (own := [("k", 4)]) (g := gName 4) rfl sc_l_shuffled.nd (pi_range1 (by rfl) T.range (pa_cons (pv 2) pa_nil)) (blkOk_by (N := N_l_shuffled) (sc := defScope s_l_shuffled) (by decide +kernel)) (fun _ _ _ _ _ => pg_name (i := 4) sc_l_shuffled.nd rfl (.inl rfl)) (fun _ _ _ _ _ => pts_nil) (fun _ _ _ _ _ => (pe_tup (pa_cons (pe_op op_mod (pe_op op_mul (pe_own O_l_cell_at hr_l_cell_at pass0 (pa_cons (pv 0) (pa_cons (pe_op op_add (pv 1) (pe_op op_mod (pv 4) pe_int)) pa_nil))) (pe_op op_add (pv 4) pe_int)) pe_int) (pa_cons (pv 4) pa_nil))))) pa_nil)))
        (pss_one (ps_ret (pe_lc (own := [("number", 5), ("k", 4)]) (g := gTup K 2 (gCons (gName 5) (gCons (gName 4) gNil))) rfl sc_l_shuffled.nd (pi_list (pv 3)) (blkOk_by (N := N_l_shuffled) (sc := defScope s_l_shuffled) (by decide +kernel)) (fun _ _ _ _ _ => (pg_tupK rfl rfl (pgs_cons (pg_name (i := 5) sc_l_shuffled.nd rfl (.inl rfl)) (pgs_cons (pg_name (i := 4) sc_l_shuffled.nd rfl (.inl rfl)) pgs_nil)))) (fun _ _ _ _ _ => pts_nil) (fun _ _ _ _ _ => (pv 4)))))), ?_⟩
    try dsimp only [cxOf]
    refine q_sorted_pairs (n := n) (f := fun i => cellAt ns (z + (i : Int) % 45) * ((i : Int) + 1) % 101) (er_lcR1 (mk := HO.tup) (n := (n : Int)) (fun i => [V.int (cellAt ns (z + (i : Int) % 45) * ((i : Int) + 1) % 101), V.int (i : Int)]) (by walk_at "ea") (by omega) (fun _ => rfl) fun i H1 e1 hi => ?_) fun p zs H2 np e2 hp hm hperm => ?_
    · have hS1 := ex_l e1 hS
      exact eu_tup (ea_cons (ev_op (ev_op (sv_cell (by walk_at "ea") hS1 (by omega)) (by walk_at "ev") (rv_I (by exact Or.inr ⟨by omega, by omega⟩))) ev_c (rv_I (by walk_at "side"))) (by walk_at "ea")) (Nat.le_of_ble_eq_true rfl)
    have hzl : zs.length = n := by
      have := hperm.length_eq
      rw [List.length_map, List.length_range] at this
      exact this
    refine s_retL (el_lcPairs (K := K) (zs := zs) (fun x => V.int (pairAt H2 x).2) (by walk_at "ev") (sq_of hp) (by omega) (fun x hx => ?_) (fun _ _ => rfl) fun x H3 e3 hx => by walk_at "ev") fun l H3 nl e3 hl => ?_
    · obtain ⟨q, i, h1, h2, h3⟩ := hm x hx
      exact ⟨q, _, _, h1, h3⟩
    have e4 : zs.map (fun x => V.int (pairAt H2 x).2) = vn (zs.map fun x => (pairAt H2 x).2.toNat) := by
      unfold vn
      rw [List.map_map]
      refine List.map_congr_left fun x hx => ?_
      obtain ⟨q, i, rfl, h2, h3⟩ := hm x hx
      show V.int (pairAt H2 (.ref q)).2 = V.int ((pairAt H2 (.ref q)).2.toNat : Int)
      rw [pairAt_is h3, Int.toNat_natCast]
    rw [e4] at hl
    exact kQ _ hperm l H3 (fresh_back e2 nl) (e2.trans e3) hl

abbrev s_asked_outcome : Stmt := top 10
abbrev N_asked_outcome : List Str := ["places"]
theorem sc_asked_outcome : FnScope N_asked_outcome ["places"] (defScope s_asked_outcome) := ⟨rfl, rfl, rfl, by decide +kernel, rfl, by decide +kernel, by decide +kernel⟩
theorem bw_asked_outcome : BindsWell "asked_outcome" s_asked_outcome ["places"] := fun _ _ _ _ _ _ us hl => match us, hl with | [_], _ => rfl

theorem range_le (n : Nat) : ((List.range n).map Int.ofNat).Pairwise (· ≤ ·) := by
  rw [List.pairwise_map]
  exact List.pairwise_lt_range.imp fun {a b} h => by show (a : Int) ≤ (b : Int); omega
def OutBad (ns : List Int) : Prop := ns.length < 1 ∨ 40 < ns.length ∨ ¬ ns.Perm ((List.range ns.length).map Int.ofNat)
theorem out_good {ns : List Int} (h : ¬ OutBad ns) : ∃ ps : List Nat, ns = ps.map Int.ofNat ∧ Outcome ps := by
  have h1 : ¬ ns.length < 1 := fun z => h (.inl z)
  have h2 : ¬ 40 < ns.length := fun z => h (.inr (.inl z))
  have h3 : ns.Perm ((List.range ns.length).map Int.ofNat) := Classical.byContradiction fun z => h (.inr (.inr z))
  obtain ⟨ps, rfl, hp⟩ := perm_nat h3
  rw [List.length_map] at h1 h2 hp
  exact ⟨ps, rfl, by omega, by omega, hp⟩
theorem good_out {ps : List Nat} (h : Outcome ps) : ¬ OutBad (ps.map Int.ofNat) := by
  obtain ⟨h1, h2, h3⟩ := h
  rintro (g | g | g)
  · rw [List.length_map] at g
    omega
  · rw [List.length_map] at g
    omega
  · rw [List.length_map] at g
    exact g (h3.map _)
theorem map_nat {ws us : List Nat} (h : ws.map Int.ofNat = us.map Int.ofNat) : ws = us := (List.map_inj_right (fun x y h => Int.ofNat.inj h)).mp h
theorem ev_neSorted {K : Kf} {σ : L2.St} {H : Hp} {ta tb : TE} {a : Addr} {ns m : List Int} (h : Ev ta σ H (.ref a)) (hx : SqL K H a (ns.map V.int)) (hb : EvL tb σ H (m.map V.int)) (hm : m.Pairwise (· ≤ ·)) : Ev (tOp (rNeD K) (tCB (rSortedI K) (tCons ta tNil)) tb) σ H (.bl (!decide (ns.Perm m))) := fun H1 e Q q =>
  h H1 e _ fun H2 e2 => ⟨a, ns, rfl, ex_l (e.trans e2) hx, fun s p h1 h2 np => hb _ ((e.trans e2).trans (Ex.new np)) _ fun p2 H3 np2 e3 hp2 => by
    have e4 : decide (s.map V.int = m.map V.int) = decide (ns.Perm m) := by
      refine decide_eq_decide.mpr ⟨fun z => ?_, fun z => ?_⟩
      · have : s = m := (List.map_inj_right (fun x y h => V.int.inj h)).mp z
        rw [← this]
        exact h1.symm
      · rw [sorted_same (h1.trans z) h2 hm]
    have e5 := rv_neL (K := K) (H := H3) (sq_of (e3 _ _ upd_same)) (sq_of hp2) (ints_fl3 s) (ints_fl3 m)
    rw [e4] at e5
    exact e5 H3 (Ex.refl H3) Q fun H4 e6 => q H4 (((e2.trans (Ex.new np)).trans e3).trans e6)⟩
def sp_asked_outcome (K : Kf) : Sp := fun vs H Q E => ∃ (a : Addr) (ns : List Int), vs = [.ref a] ∧ SqL K H a (ns.map V.int) ∧ ns.length ≤ 1000 ∧ (OutBad ns → ∀ H', Ex H H' → E (.ref (He.ga K (classAt 2))) none H') ∧ (¬ OutBad ns → RetV .non H Q)
theorem sv_asked_outcome {K : Kf} {σ : L2.St} {H : Hp} {E : XK} {ta : TA} {a : Addr} {ps : List Nat} (h : EvA ta σ H [.ref a]) (hS : SqL K H a (vn ps)) (hR : Outcome ps) : Ev (tCall (sp_asked_outcome K) [] E ta) σ H .non :=
  ev_callV h fun H1 e Q q E => ⟨a, ps.map Int.ofNat, rfl, by rw [← vn_ints]; exact ex_l e hS, by rw [List.length_map]; have := hR.hi; omega, fun hb => absurd hb (good_out hR), fun _ => q⟩
theorem rz_asked_outcome {K : Kf} {σ : L2.St} {H : Hp} {E : XK} {ta : TA} {a : Addr} {ns : List Int} (h : EvA ta σ H [.ref a]) (hS : SqL K H a (ns.map V.int)) (hl : ns.length ≤ 1000) (hb : OutBad ns) (hE : ∀ H', Ex H H' → E (.ref (He.ga K (classAt 2))) none H') : Rz (tCall (sp_asked_outcome K) [] E ta) σ H :=
  rz_call h fun H1 e Q => ⟨a, ns, rfl, ex_l e hS, hl, fun _ H' e2 => hE H' (e.trans e2), fun hg => absurd hb hg⟩
theorem ok_asked_outcome (D : Def K mg "asked_outcome" s_asked_outcome) (T : Txt mg) {tLONGEST : Tok} (cLONGEST : mg "LONGEST" = some (.int 40 tLONGEST)) (E_NoOutcome : Exc K mg "NoOutcome") : Own P w K mg base (L2.CX P w) 1 "asked_outcome" ["places"] (sp_asked_outcome K) := by
  refine D.hot sc_asked_outcome bw_asked_outcome (fun vs H Q E h => ?_) (fun f cdv A outer s H vs Q E hr h => ?_)
  · obtain ⟨a, ns, rfl, _⟩ := h
    rfl
  · obtain ⟨a, ns, rfl, hS, hl, hE, kQ⟩ := h
    refine ⟨_, (pss_one (ps_if (PW.pt (pw_or (pt_cmpR op_lt (pe_callB cr_len (by rfl) T.len PySem.boot_len (pa_cons (pv 0) pa_nil)) pe_int (nomark _)) (pw_or (pt_cmpR op_gt (pe_callB cr_len (by rfl) T.len PySem.boot_len (pa_cons (pv 0) pa_nil)) (pe_glob (v := .int 40) rfl cLONGEST ⟨_, rfl⟩) (nomark _)) (pw_or1 (pt_cmpR (op_neD hr.units) (pe_callB cr_sortedI (by rfl) T.sorted (by decide +kernel) (pa_cons (pv 0) pa_nil)) (pe_listRg rfl (by rfl) T.list (prg_1 (by rfl) T.range (pe_callB cr_len (by rfl) T.len PySem.boot_len (pa_cons (pv 0) pa_nil)))) (nomark _))))))
        (pss_one (ps_raise rfl (takes_of rfl rfl rfl rfl) (pmk_own PySem.F.excBase_ValueError E_NoOutcome.x E_NoOutcome.g E_NoOutcome.k (raises_own E_NoOutcome.b E_NoOutcome.t) rfl)))
        pss_nil)), ?_⟩
    try dsimp only [cxOf]
    refine s_when (b := decide ((ns.length : Int) < 1) || (decide (40 < (ns.length : Int)) || !decide (ns.Perm ((List.range ns.length).map Int.ofNat)))) (et_or (et_test (ev_op (ev_is (ev_len (K := K) (ev_var rfl) hS) (by rw [List.length_map])) ev_c rv_I0)) fun _ => et_or (et_test (ev_op (ev_is (ev_len (K := K) (ev_var rfl) hS) (by rw [List.length_map])) ev_c rv_I0)) fun _ => et_test (ev_neSorted (m := (List.range ns.length).map Int.ofNat) (ev_var rfl) hS (el_is (el_listRg (n := ns.length) (ev_is (ev_len (K := K) (ev_var rfl) hS) (by rw [List.length_map])) (by omega)) (vn_ints _)) (range_le _))) (fun hb H1 e1 => ?_) (fun hb H1 e1 => ?_)
    · rw [Bool.or_eq_true, Bool.or_eq_true, decide_eq_true_eq, decide_eq_true_eq] at hb
      refine hE ?_ H1 e1
      rcases hb with hb | hb | hb
      · exact .inl (by omega)
      · exact .inr (.inl (by omega))
      · refine .inr (.inr fun z => ?_)
        rw [decide_eq_true z] at hb
        cases hb
    · rw [Bool.or_eq_false_iff, Bool.or_eq_false_iff, decide_eq_false_iff_not, decide_eq_false_iff_not] at hb
      refine kQ ?_ H1 e1
      rintro (g | g | g)
      · omega
      · omega
      · rw [decide_eq_false g] at hb
        exact absurd hb.2.2 (by decide)

abbrev s_spans : Stmt := top 11
abbrev N_spans : List Str := ["places", "taken", "found", "place", "least"]
theorem sc_spans : FnScope N_spans ["places"] (defScope s_spans) := ⟨rfl, rfl, rfl, by decide +kernel, rfl, by decide +kernel, by decide +kernel⟩
theorem bw_spans : BindsWell "spans" s_spans ["places"] := fun _ _ _ _ _ _ us hl => match us, hl with | [_], _ => rfl

def spansL (ps : List Nat) (n : Nat) : List (List V) := (List.range n).map fun b => [V.int (spanAt ps b : Int), V.int (ps.getD b 0 : Int)]
def sp_spans (K : Kf) : Sp := fun vs H Q E => ∃ (a : Addr) (ns : List Int), vs = [.ref a] ∧ SqL K H a (ns.map V.int) ∧ ns.length ≤ 1000 ∧ (OutBad ns → ∀ H', Ex H H' → E (.ref (He.ga K (classAt 2))) none H') ∧ (∀ ps, ns = ps.map Int.ofNat → Outcome ps → RetM HO.tup (spansL ps ps.length) H Q)
theorem sv_spans {K : Kf} {σ : L2.St} {H : Hp} {E : XK} {ta : TA} {a : Addr} {ps : List Nat} (h : EvA ta σ H [.ref a]) (hS : SqL K H a (vn ps)) (hR : Outcome ps) : EvM HO.tup (tCall (sp_spans K) [] E ta) σ H (spansL ps ps.length) :=
  em_call h fun H1 e Q q E => ⟨a, ps.map Int.ofNat, rfl, by rw [← vn_ints]; exact ex_l e hS, by rw [List.length_map]; have := hR.hi; omega, fun hb => absurd hb (good_out hR), fun us e2 _ => by rw [← map_nat e2]; exact q⟩
theorem rz_spans {K : Kf} {σ : L2.St} {H : Hp} {E : XK} {ta : TA} {a : Addr} {ns : List Int} (h : EvA ta σ H [.ref a]) (hS : SqL K H a (ns.map V.int)) (hl : ns.length ≤ 1000) (hb : OutBad ns) (hE : ∀ H', Ex H H' → E (.ref (He.ga K (classAt 2))) none H') : Rz (tCall (sp_spans K) [] E ta) σ H :=
  rz_call h fun H1 e Q => ⟨a, ns, rfl, ex_l e hS, hl, fun _ H' e2 => hE H' (e.trans e2), fun ps e2 hR => absurd hb (by rw [e2]; exact good_out hR)⟩
theorem ok_spans (D : Def K mg "spans" s_spans) (T : Txt mg) (O_asked_outcome : Own P w K mg base (L2.CX P w) 1 "asked_outcome" ["places"] (sp_asked_outcome K)) : Own P w K mg base (L2.CX P w) 2 "spans" ["places"] (sp_spans K) := by
  refine D.hot sc_spans bw_spans (fun vs H Q E h => ?_) (fun f cdv A outer s H vs Q E hr h => ?_)
  · obtain ⟨a, ns, rfl, _⟩ := h
    rfl
  · obtain ⟨a, ns, rfl, hS, hl, hE, kG⟩ := h
    have hr_asked_outcome : Room 1 _ := hr.mono (by decide)
    have hu := hu_of hr
    refine ⟨_, (pss_cons (ps_expr (pe_own (E := E) O_asked_outcome hr_asked_outcome (passes_call (takes_of rfl rfl rfl rfl) (fun _ _ _ _ h => h)) (pa_cons (pv 0) pa_nil)))
        (pss_cons (ps_set (i := 1) sc_spans.nd rfl (Or.inl rfl) pe_dnewK)
        (pss_cons (ps_set (i := 2) sc_spans.nd rfl (Or.inl rfl) (pe_lst pa_nil))
        (pss_cons (ps_for (passes_of rfl) rfl (pi_list (pv 0)) (pg_name (i := 3) sc_spans.nd rfl (Or.inl rfl))
        (pss_cons (ps_set (i := 4) sc_spans.nd rfl (Or.inl rfl) (pv 3))
          (pss_cons (ps_while (passes_of rfl) (pt_cmp (pc_din hu (pe_op op_sub (pv 4) pe_int) (pv 1)))
          (pss_one (ps_set (i := 4) sc_spans.nd rfl (Or.inl rfl) (pe_op op_sub (pv 4) pe_int))))
          (pss_cons (ps_dput hu (pv 1) (pv 3) pe_bl rfl)
          (pss_one (ps_expr (pe_bm PySem.F.plainAttrs_list PySem.F.slot_list_append PySem.F.type_list_append mt_append (pv 2) (pa_cons (pe_tup (pa_cons (pv 4) (pa_cons (pv 3) pa_nil))) pa_nil))))))))
        (pss_one (ps_ret (pv 2))))))), ?_⟩
    try dsimp only [cxOf]
    rcases Classical.em (OutBad ns) with hb | hb
    · exact q_dropR (rz_asked_outcome (by walk_at "ea") hS hl hb (hE hb))
    obtain ⟨ps, rfl, hR⟩ := out_good hb
    have kQ := kG ps rfl hR
    rw [← vn_ints] at hS
    obtain ⟨r1, r2, r3⟩ := id hR
    refine q_drop (sv_asked_outcome (by walk_at "ea") hS hR) fun H1 e1 => ?_
    refine q_dnew fun d nd => ?_
    refine q_asgL (by walk_at "el") fun fo H2 nfo e2 hfo => ?_
    have eH2 : Ex H H2 := (e1.trans (Ex.new nd)).trans e2
    have nd0 : H d = none := fresh_back e1 nd
    have nfo0 : H fo = none := fresh_back (e1.trans (Ex.new nd)) nfo
    refine q_forLn (K := K) (a := a) (xs := vn ps) (by walk_at "ev") (ex_l eH2 hS) (fun i σ' H' => ∃ o3 o4 pps, σ' = [some (.ref a), some (.ref d), some (.ref fo), o3, o4] ∧ Ex H H' ∧ H' d = some (.dK (tkR (ps.take i))) ∧ H' fo = some (.lst (pps.map V.ref)) ∧ MAt HO.tup H' pps (spansL ps i))
      (fun H3 e3 => ⟨none, none, [], rfl, eH2.trans e3, e3 _ _ (e2 _ _ upd_same), e3 _ _ hfo, .nil⟩) (fun i σ' H' _ p => ?_) ?_ ?_
    · obtain ⟨_, _, _, _, eH, _⟩ := p
      exact ex_l eH hS
    · rintro i x σ' H' hx ⟨o3, o4, pps, rfl, eH, hd, hf, hm⟩
      obtain ⟨w, rfl, hw, hi, hmem⟩ := vn_at hx
      have hnw : w ∉ ps.take i := by
        have h3 : (ps.take (i + 1)).Nodup := hR.nodup.sublist (List.take_sublist _ _)
        rw [take_succ_of hw] at h3
        intro hc
        exact (List.nodup_append.mp h3).2.2 w hc w (List.mem_singleton.mpr rfl) rfl
      have egd : ps.getD i 0 = w := by rw [List.getD_eq_getElem?_getD, hw]; rfl
      have hfd : fo ≠ d := ne_of hf hd (by intro z; cases z)
      refine q_asg (by walk_at "ev") fun H3 e3 => ?_
      refine q_least (L := 4) (ds := 1) (p := w) (da := d) (acc := ps.take i) (by show 4 < 5; omega) (by decide) rfl (e3 _ _ hd) rfl fun H4 e4 => ?_
      have hd4 := (e3.trans e4) _ _ hd
      have esp : leastF (fun q => decide (q ∈ ps.take i)) w = spanAt ps i := by
        unfold spanAt
        rw [egd]
      rw [esp]
      refine q_dput (k := (w : Int)) ev_c (ev_var rfl) (ev_var rfl) hd4 (by rw [tkR_len, List.length_take]; omega) fun H5 e5 => ?_
      have hd5 := e5 _ _ hd4
      have hf5 : upd H5 d (.dK (putK (tkR (ps.take i)) (Sum.inl (w : Int)) (.bl true))) fo = some (.lst (pps.map V.ref)) := by
        rw [upd_ne hfd]
        exact e5 _ _ ((e3.trans e4) _ _ hf)
      have hm5 := mat_dk (o := .dK (putK (tkR (ps.take i)) (Sum.inl (w : Int)) (.bl true))) hd5 (hm.ex ((e3.trans e4).trans e5))
      have hpl : pps.length = i := by
        rw [hm.len]
        unfold spansL
        rw [List.length_map, List.length_range]
      refine s_appU hf5 (ev_var rfl) (eu_tup (ea_cons (ev_var rfl) (ea_cons (ev_var rfl) ea_nil)) (Nat.le_of_ble_eq_true rfl)) (by rw [List.length_map]; omega) fun q H6 nq e6 hq => ?_
      refine ⟨_, _, pps ++ [q], rfl, ((((eH.trans e3).trans e4).trans e5).mut nd0).trans e6 |>.mut nfo0, ?_, ?_, ?_⟩
      · rw [upd_ne hfd.symm, take_succ_of hw, ← putK_tkR hnw]
        exact e6 _ _ upd_same
      · rw [upd_same, List.map_append]
        rfl
      · refine mat_lst (e6 _ _ hf5) ?_
        unfold spansL
        rw [List.range_succ, List.map_append]
        refine (hm5.ex e6).app (.cons ?_ .nil)
        show H6 q = some (.tup [V.int (spanAt ps i : Int), V.int (ps.getD i 0 : Int)])
        rw [egd]
        exact hq
    · rintro σ' H' ⟨o3, o4, pps, rfl, eH, hd, hf, hm⟩
      refine s_ret (by walk_at "ev") fun H3 e3 => ?_
      rw [vn_len] at hm
      exact kQ fo pps H3 nfo0 (eH.trans e3) (e3 _ _ hf) (hm.ex e3)

abbrev s_ways : Stmt := top 12
abbrev N_ways : List Str := ["places", "total", "least", "place"]
theorem sc_ways : FnScope N_ways ["places"] (defScope s_ways) := ⟨rfl, rfl, rfl, by decide +kernel, rfl, by decide +kernel, by decide +kernel⟩
theorem bw_ways : BindsWell "ways" s_ways ["places"] := fun _ _ _ _ _ _ us hl => match us, hl with | [_], _ => rfl

def sp_ways (K : Kf) : Sp := fun vs H Q E => ∃ (a : Addr) (ns : List Int), vs = [.ref a] ∧ SqL K H a (ns.map V.int) ∧ ns.length ≤ 1000 ∧ (OutBad ns → ∀ H', Ex H H' → E (.ref (He.ga K (classAt 2))) none H') ∧ (∀ ps, ns = ps.map Int.ofNat → Outcome ps → RetV (.int (waysL ps : Int)) H Q)
theorem ways_step {ps : List Nat} {b : Nat} : ((waysTo ps b : Nat) : Int) * ((ps.getD b 0 : Int) - (spanAt ps b : Int) + 1) = ((waysTo ps (b + 1) : Nat) : Int) := by
  have h1 := spanAt_le ps b
  show _ = ((waysTo ps b * (ps.getD b 0 - spanAt ps b + 1) : Nat) : Int)
  rw [Int.natCast_mul]
  congr 1
  omega
theorem q_forRz {K : Kf} {σ : L2.St} {H : Hp} {tl : TE} {g : TG} {tu tz : TS} {D : Ends} (h : Rz tl σ H) : tSeq (tFor (iList K tl) g tu) tz D σ H := h H (Ex.refl H) _
theorem ok_ways (D : Def K mg "ways" s_ways) (T : Txt mg) (O_spans : Own P w K mg base (L2.CX P w) 2 "spans" ["places"] (sp_spans K)) : Own P w K mg base (L2.CX P w) 3 "ways" ["places"] (sp_ways K) := by
  refine D.hot sc_ways bw_ways (fun vs H Q E h => ?_) (fun f cdv A outer s H vs Q E hr h => ?_)
  · obtain ⟨a, ns, rfl, _⟩ := h
    rfl
  · obtain ⟨a, ns, rfl, hS, hl, hE, kG⟩ := h
    have hr_spans : Room 2 _ := hr.mono (by decide)
    refine ⟨_, (pss_cons (ps_set (i := 1) sc_ways.nd rfl (Or.inl rfl) pe_int)
        (pss_cons (ps_for (passes_of rfl) rfl (pi_list (pe_own (E := E) O_spans hr_spans (passes_call (takes_of rfl rfl rfl rfl) (fun _ _ _ _ h => h)) (pa_cons (pv 0) pa_nil))) (pg_tup (by rfl) (pgs_cons (pg_name (i := 2) sc_ways.nd rfl (Or.inl rfl)) (pgs_cons (pg_name (i := 3) sc_ways.nd rfl (Or.inl rfl)) pgs_nil)))
        (pss_one (ps_set (i := 1) sc_ways.nd rfl (Or.inl rfl) (pe_op op_mul (pv 1) (pe_op op_add (pe_op op_sub (pv 3) (pv 2)) pe_int)))))
        (pss_one (ps_ret (pv 1))))), ?_⟩
    try dsimp only [cxOf]
    rcases Classical.em (OutBad ns) with hb | hb
    · exact q_asg ev_c fun H1 e1 => q_forRz (rz_spans (by walk_at "ea") (ex_l e1 hS) hl hb fun H2 e2 => hE hb H2 (e1.trans e2))
    obtain ⟨ps, rfl, hR⟩ := out_good hb
    have kQ := kG ps rfl hR
    rw [← vn_ints] at hS
    obtain ⟨r1, r2, r3⟩ := id hR
    refine q_asg (by walk_at "ev") fun H1 e1 => ?_
    refine q_forPairsN (n := ps.length) (f := fun b => (spanAt ps b : Int)) (g := fun b => (ps.getD b 0 : Int)) (sv_spans (K := K) (by walk_at "ea") (ex_l e1 hS) hR) (fun Hb b σ' H' => ∃ o2 o3, σ' = [some (.ref a), some (.int (waysTo ps b : Int)), o2, o3] ∧ Ex H Hb ∧ Ex Hb H') (fun Hb b σ' H' ⟨_, _, _, _, h⟩ => h) (fun H2 e2 => ⟨none, none, rfl, e1.trans e2, Ex.refl _⟩) ?_ ?_
    · rintro Hb b σ' H' hb ⟨o2, o3, rfl, eB, eH⟩
      have hp : ps.getD b 0 < ps.length := by
        refine hR.lt _ ?_
        rw [List.getD_eq_getElem?_getD, List.getElem?_eq_getElem hb]
        exact List.getElem_mem hb
      refine s_asg (ev_is (ev_op (ev_var rfl) (ev_op (ev_op (ev_var rfl) (ev_var rfl) rv_I0) ev_c rv_I0) (rv_I (.inr (by have := spanAt_le ps b; exact ⟨by omega, by omega⟩)))) (congrArg V.int ways_step)) fun H3 e3 => ?_
      exact ⟨_, _, rfl, eB, eH.trans e3⟩
    · rintro Hb σ' H' ⟨o2, o3, rfl, eB, eH⟩
      refine s_ret (by walk_at "ev") fun H3 e3 => ?_
      exact kQ H3 ((eB.trans eH).trans e3)

abbrev s_l_word_of : Stmt := top 16
abbrev N_l_word_of : List Str := ["e", "kinds"]
theorem sc_l_word_of : FnScope N_l_word_of ["e"] (defScope s_l_word_of) := ⟨rfl, rfl, rfl, by decide +kernel, rfl, by decide +kernel, by decide +kernel⟩
theorem bw_l_word_of : BindsWell "_law_word_of" s_l_word_of ["e"] := fun _ _ _ _ _ _ us hl => match us, hl with | [_], _ => rfl

theorem ok_l_word_of (D : Def K mg "_law_word_of" s_l_word_of) (T : Txt mg) (gNoQuay : mg "NoQuay" = some (.ref (He.ga K "NoQuay"))) (gNoTree : mg "NoTree" = some (.ref (He.ga K "NoTree"))) (gNoOutcome : mg "NoOutcome" = some (.ref (He.ga K "NoOutcome"))) (gNoRow : mg "NoRow" = some (.ref (He.ga K "NoRow"))) (gNoRank : mg "NoRank" = some (.ref (He.ga K "NoRank"))) (gNoNote : mg "NoNote" = some (.ref (He.ga K "NoNote"))) : OwnP P w K mg base 1 "_law_word_of" ["e"] (sp_l_word_of K) := by
  refine D.pinned sc_l_word_of bw_l_word_of (fun p vs H Q E h => ?_) (fun p f cdv A outer s H vs Q E hr h => ?_)
  · obtain ⟨_, _, rfl, _⟩ := h
    rfl
  · obtain ⟨D0, i, rfl, hz, hf, hi, hw, kQ⟩ := h
    refine ⟨_, (pss_cons (ps_set (i := 1) sc_l_word_of.nd rfl (Or.inl rfl) (pe_lst (pa_cons (pe_callB (call_isP (p := p) List.mem_cons_self hw.c hz hf) (by rfl) T.isinstance (by decide +kernel) (pa_cons (pv 0) (pa_cons (pe_glob (v := .ref _) rfl gNoQuay rfl) pa_nil))) (pa_cons (pe_callB (call_isP (p := p) List.mem_cons_self hw.c hz hf) (by rfl) T.isinstance (by decide +kernel) (pa_cons (pv 0) (pa_cons (pe_glob (v := .ref _) rfl gNoRow rfl) pa_nil))) (pa_cons (pe_callB (call_isP (p := p) List.mem_cons_self hw.c hz hf) (by rfl) T.isinstance (by decide +kernel) (pa_cons (pv 0) (pa_cons (pe_glob (v := .ref _) rfl gNoOutcome rfl) pa_nil))) (pa_cons (pe_callB (call_isP (p := p) List.mem_cons_self hw.c hz hf) (by rfl) T.isinstance (by decide +kernel) (pa_cons (pv 0) (pa_cons (pe_glob (v := .ref _) rfl gNoTree rfl) pa_nil))) pa_nil))))))
        (pss_cons (ps_set (i := 1) sc_l_word_of.nd rfl (Or.inl rfl) (pe_op op_cat (pv 1) (pe_lst (pa_cons (pe_callB (call_isP (p := p) List.mem_cons_self hw.c hz hf) (by rfl) T.isinstance (by decide +kernel) (pa_cons (pv 0) (pa_cons (pe_glob (v := .ref _) rfl gNoRank rfl) pa_nil))) (pa_cons (pe_callB (call_isP (p := p) List.mem_cons_self hw.c hz hf) (by rfl) T.isinstance (by decide +kernel) (pa_cons (pv 0) (pa_cons (pe_glob (v := .ref _) rfl gNoNote rfl) pa_nil))) pa_nil)))))
        (pss_cons (ps_if (PW.pt (pw_or (pt_cmpR op_ne (pe_bm PySem.F.plainAttrs_list PySem.F.slot_list_count PySem.F.type_list_count mt_cntB (pv 1) (pa_cons pe_bl pa_nil)) pe_int (nomark _)) (pw_or1 (pt_not (pt_val (pe_callB (call_isP (p := p) List.mem_cons_self hw.c hz hf) (by rfl) T.isinstance (by decide +kernel) (pa_cons (pv 0) (pa_cons (pe_bltn (v := .ty "ValueError") (by rfl) T.ValueError (by decide +kernel) rfl) pa_nil))))))))
        (pss_one (ps_ret pe_str))
        pss_nil)
        (pss_one (ps_ret (pe_ix ix_list (pe_lst (pa_cons pe_str (pa_cons pe_str (pa_cons pe_str (pa_cons pe_str (pa_cons pe_str (pa_cons pe_str pa_nil))))))) (pe_bm PySem.F.plainAttrs_list PySem.F.slot_list_index PySem.F.type_list_index mt_index (pv 1) (pa_cons pe_bl pa_nil)) (fun _ _ => rfl))))))), ?_⟩
    try dsimp only [cxOf]
    refine q_asgL (xs := [.bl (decide (0 = i)), .bl (decide (1 = i)), .bl (decide (2 = i)), .bl (decide (3 = i))]) (el_lst (ea_cons (ev_isE (ev_var rfl) ev_c (hw.kit 0 (by decide))) (ea_cons (ev_isE (ev_var rfl) ev_c (hw.kit 1 (by decide))) (ea_cons (ev_isE (ev_var rfl) ev_c (hw.kit 2 (by decide))) (ea_cons (ev_isE (ev_var rfl) ev_c (hw.kit 3 (by decide))) ea_nil)))) (Nat.le_of_ble_eq_true rfl)) fun kp H1 nkp e1 hkp => ?_
    refine q_asgL (xs := (marks i).map V.bl) (el_is (el_cat (ev_var rfl) hkp (el_lst (ea_cons (ev_isE (ev_var rfl) ev_c (hw.kit 4 (by decide))) (ea_cons (ev_isE (ev_var rfl) ev_c (hw.kit 5 (by decide))) ea_nil)) (Nat.le_of_ble_eq_true rfl)) (Nat.le_of_ble_eq_true rfl)) rfl) fun lp H2 nlp e2 hlp => ?_
    have hc : (marks i).count true = 1 := by
      match i, hi with
      | 0, _ => rfl
      | 1, _ => rfl
      | 2, _ => rfl
      | 3, _ => rfl
      | 4, _ => rfl
      | 5, _ => rfl
    refine q_when (b := false) (et_is (et_or (et_test (ev_op (ev_cntB (K := K) (ev_var rfl) ev_c hlp) ev_c (rv_ne rfl))) fun _ => et_not (et_B (ev_isEV (ev_var rfl) hw.ve))) ?_) (fun h => by cases h) fun _ H3 e3 => ?_
    · rw [hc, decide_eq_true (show V.int ((1 : Nat) : Int) = V.int 1 from rfl)]
      rfl
    refine s_ret (v := .str (wordAt i)) (ev_ixNL (i := (i : Int)) (xs := [.str "quay", .str "row", .str "outcome", .str "tree", .str "rank", .str "note"]) (el_lst (ea_cons ev_c (ea_cons ev_c (ea_cons ev_c (ea_cons ev_c (ea_cons ev_c (ea_cons ev_c ea_nil)))))) (Nat.le_of_ble_eq_true rfl)) (fun H4 e4 => ev_idxB (K := K) hi (ev_var rfl) ev_c (e4 _ _ (e3 _ _ hlp))) (atI_nat ?_)) fun H4 e4 => kQ H4 (((e1.trans e2).trans e3).trans e4)
    match i, hi with
    | 0, _ => rfl
    | 1, _ => rfl
    | 2, _ => rfl
    | 3, _ => rfl
    | 4, _ => rfl
    | 5, _ => rfl

abbrev s_l_tried : Stmt := top 17
abbrev N_l_tried : List Str := ["way", "places", "e"]
theorem sc_l_tried : FnScope N_l_tried ["way", "places"] (defScope s_l_tried) := ⟨rfl, rfl, rfl, by decide +kernel, rfl, by decide +kernel, by decide +kernel⟩
theorem bw_l_tried : BindsWell "_law_tried" s_l_tried ["way", "places"] := fun _ _ _ _ _ _ us hl => match us, hl with | [_, _], _ => rfl

def sp_l_tried (K : Kf) : Sp := fun vs H Q _ => ∃ (a : Addr) (way : Int) (ns : List Int), vs = [.int way, .ref a] ∧ SqL K H a (ns.map V.int) ∧ ns.length ≤ 1000 ∧ (OutBad ns → RetV (.str "outcome") H Q) ∧ (¬ OutBad ns → RetV (.str "done") H Q)
theorem tried_fresh {K : Kf} {σ : L2.St} {H : Hp} {E : XK} {tw ta : TE} {way : Int} {ns : List Int} {w : Str} (hw : Ev tw σ H (.int way)) (h : EvL ta σ H (ns.map V.int)) (hl : ns.length ≤ 1000) (h1 : OutBad ns → w = "outcome") (h2 : ¬ OutBad ns → w = "done") : Ev (tCall (sp_l_tried K) [] E (tCons tw (tCons ta tNil))) σ H (.str w) := fun H1 e Q q =>
  hw H1 e _ fun H2 e2 => h H2 (e.trans e2) _ fun p H3 np e3 hp => ⟨p, way, ns, rfl, sq_of hp, hl, fun hb H4 e4 => by rw [← h1 hb]; exact q H4 ((e2.trans e3).trans e4), fun hb H4 e4 => by rw [← h2 hb]; exact q H4 ((e2.trans e3).trans e4)⟩
theorem ok_l_tried (D : Def K mg "_law_tried" s_l_tried) (T : Txt mg) (gMoorError : mg "MoorError" = some (.ref (He.ga K "MoorError"))) (words : Words K) (O_spans : Own P w K mg base (L2.CX P w) 2 "spans" ["places"] (sp_spans K)) (O_ways : Own P w K mg base (L2.CX P w) 3 "ways" ["places"] (sp_ways K)) (O_l_word_of : OwnP P w K mg base 1 "_law_word_of" ["e"] (sp_l_word_of K)) : Own P w K mg base CX0 4 "_law_tried" ["way", "places"] (sp_l_tried K) := by
  refine D.calm sc_l_tried bw_l_tried (fun vs H Q E h => ?_) (fun f cdv A outer s H vs Q E hr h => ?_)
  · obtain ⟨a, way, ns, rfl, _⟩ := h
    rfl
  · obtain ⟨a, way, ns, rfl, hS, hl, k1, k2⟩ := h
    have hr_spans : Room 2 _ := hr.mono (by decide)
    have hr_ways : Room 3 _ := hr.mono (by decide)
    have hr_l_word_of : Room 1 _ := hr.mono (by decide)
    refine ⟨_, (pss_cons (ps_try_as (i := 2) rfl rfl sc_l_tried.nd rfl rfl ⟨rfl, by decide, Or.inl gMoorError⟩ takes0 (fun W pn xe tk xp => (pss_one (ps_if (pt_cmpR op_eq (pv 0) pe_int (nomark _))
          (pss_one (ps_expr (pe_ownS O_spans hr_spans (fun σ => passAt tk σ) (pa_cons (pv 1) pa_nil))))
          (pss_one (ps_expr (pe_ownS O_ways hr_ways (fun σ => passAt tk σ) (pa_cons (pv 1) pa_nil))))))) (fun a oe cls d pn hz hf => (pss_one (ps_ret (pe_word O_l_word_of hr_l_word_of hz hf (pv 2))))))
        (pss_one (ps_ret pe_str))), ?_⟩
    try dsimp only [cxOf]
    have kb : ∀ (D : Ends) (_ : D.rt = Q) (Wout : WX) (H1 : Hp), Ex H H1 → OutBad ns → ∀ H', Ex H1 H' → wAs K (.ref (He.ga K "MoorError")) 2 (fun a cls d => tRet (tWord K a cls d (tVar 2))) Wout D (.ref (He.ga K (classAt 2))) none ([some (.int way), some (.ref a), none] : L2.St) H' := fun D hD Wout H1 e1 hb H' e2 =>
      word_wish (words.w 2 (by decide)) (by decide) (by show 2 < 3; decide) fun H3 e3 => by
        rw [hD]
        exact k1 hb H3 ((e1.trans e2).trans e3)
    have kg : ∀ ps, ns = ps.map Int.ofNat → Outcome ps → ∀ H', Ex H H' → Q (.str "done") H' := fun ps e hR H' e2 => k2 (by rw [e]; exact good_out hR) H' e2
    refine s_if (et_test (ev_op (ev_var rfl) ev_c (rv_eq rfl))) (fun _ H1 e1 => ?_) (fun _ H1 e1 => ?_)
    · exact s_dropS (by walk_at "ea") fun H2 e2 => ⟨a, ns, rfl, ex_l (e1.trans e2) hS, hl, fun hb H' e' => kb _ rfl _ H2 (e1.trans e2) hb H' e', fun ps e hR p qs H' np e' hp hm => kg ps e hR H' ((e1.trans e2).trans e')⟩
    · exact s_dropS (by walk_at "ea") fun H2 e2 => ⟨a, ns, rfl, ex_l (e1.trans e2) hS, hl, fun hb H' e' => kb _ rfl _ H2 (e1.trans e2) hb H' e', fun ps e hR H' e' => kg ps e hR H' ((e1.trans e2).trans e')⟩

abbrev s_law : Stmt := top 18
abbrev N_law : List Str := ["script", "far", "boats", "way", "places", "due", "at", "asked_by"]
theorem sc_law : FnScope N_law ["script"] (defScope s_law) := ⟨rfl, rfl, rfl, by decide +kernel, rfl, by decide +kernel, by decide +kernel⟩
theorem bw_law : BindsWell "law" s_law ["script"] := fun _ _ _ _ _ _ us hl => match us, hl with | [_], _ => rfl

theorem out_far {zs : List Int} {j : Nat} {b : Int} (hj : j < zs.length) (h : b < 0 ∨ (zs.length : Int) ≤ b) : OutBad (zs.set j b) := by
  refine .inr (.inr fun hp => ?_)
  have hm : b ∈ zs.set j b := List.mem_iff_getElem?.mpr ⟨j, by rw [List.getElem?_set_self hj]⟩
  obtain ⟨x, hx, e⟩ := List.mem_map.mp (hp.mem_iff.mp hm)
  have := List.mem_range.mp hx
  rw [List.length_set] at this
  have e2 : (x : Int) = b := e
  omega
theorem out_twice {l : List Nat} {n j k : Nat} (hl : l.length = n) (hj : j < n) (hk : k < n) (hne : k ≠ j) : OutBad ((l.map Int.ofNat).set j (Int.ofNat (l.getD k 0))) := by
  refine .inr (.inr fun hp => ?_)
  have hn : ((l.map Int.ofNat).set j (Int.ofNat (l.getD k 0))).Nodup := hp.nodup_iff.mpr (List.Pairwise.map _ (fun x y h e => h (Int.ofNat.inj e)) List.nodup_range)
  have h1 : ((l.map Int.ofNat).set j (Int.ofNat (l.getD k 0)))[j]? = some (Int.ofNat (l.getD k 0)) := List.getElem?_set_self (by rw [List.length_map]; omega)
  have h2 : ((l.map Int.ofNat).set j (Int.ofNat (l.getD k 0)))[k]? = some (Int.ofNat (l.getD k 0)) := by
    rw [List.getElem?_set_ne (Ne.symm hne), List.getElem?_map, getD_some (by omega)]
    rfl
  have hkl : k < ((l.map Int.ofNat).set j (Int.ofNat (l.getD k 0))).length := by rw [List.length_set, List.length_map]; omega
  exact hne ((List.getElem?_inj hkl hn).mp (h2.trans h1.symm))
theorem step_ne {n j d : Nat} (hj : j < n) (hd : d + 1 < n) : (j + 1 + d) % n ≠ j := by
  by_cases c : j + 1 + d < n
  · rw [Nat.mod_eq_of_lt c]
    omega
  · rw [Nat.mod_eq_sub_mod (by omega), Nat.mod_eq_of_lt (by omega)]
    omega
theorem ok_law {f : Addr} {fd : FuncData} (F : FunD K "law" "law" (defArgs s_law) (defBody s_law) (defScope s_law) [] [] f fd) (T : Txt mg) (O_l_cell_at : Own P w K mg base CX0 1 "_law_cell_at" ["script", "k"] (sp_l_cell_at K)) (O_l_shuffled : Own P w K mg base CX0 2 "_law_shuffled" ["script", "first", "size"] (sp_l_shuffled K)) (O_l_tried : Own P w K mg base CX0 4 "_law_tried" ["way", "places"] (sp_l_tried K)) : FnOk P w K mg base CX0 5 f fd ["script"] (spLaw K) := by
  refine F.ok sc_law (fun vs H Q E h => ?_) (fun cdv A outer s H vs Q E hr h => ?_)
  · obtain ⟨a, ns, rfl, _⟩ := h
    rfl
  · obtain ⟨a, ns, rfl, hS, hlen, kQ⟩ := h
    have hr_l_cell_at : Room 1 _ := hr.mono (by decide)
    have hr_l_shuffled : Room 2 _ := hr.mono (by decide)
    have hr_l_tried : Room 4 _ := hr.mono (by decide)
    refine ⟨_, PSs.nox (pss_cons (ps_set (i := 1) sc_law.nd rfl (Or.inl rfl) (pe_op op_mod (pe_own O_l_cell_at hr_l_cell_at pass0 (pa_cons (pv 0) (pa_cons pe_int pa_nil))) (pe_op op_pow pe_int pe_int)))
        (pss_cons (ps_set (i := 2) sc_law.nd rfl (Or.inl rfl) (pe_op op_add pe_int (pe_op op_mod (pe_own O_l_cell_at hr_l_cell_at pass0 (pa_cons (pv 0) (pa_cons pe_int pa_nil))) pe_int)))
        (pss_cons (ps_set (i := 3) sc_law.nd rfl (Or.inl rfl) (pe_op op_mod (pe_own O_l_cell_at hr_l_cell_at pass0 (pa_cons (pv 0) (pa_cons pe_int pa_nil))) pe_int))
        (pss_cons (ps_if (pt_cmpR op_eq (pv 3) pe_int (nomark _))
        (pss_one (ps_set (i := 2) sc_law.nd rfl (Or.inl rfl) pe_int))
        pss_nil)
        (pss_cons (ps_if (pt_cmpR op_eq (pv 3) pe_int (nomark _))
        (pss_one (ps_set (i := 2) sc_law.nd rfl (Or.inl rfl) (pe_op op_add pe_int (pe_op op_mod (pe_own O_l_cell_at hr_l_cell_at pass0 (pa_cons (pv 0) (pa_cons pe_int pa_nil))) pe_int))))
        pss_nil)
        (pss_cons (ps_set (i := 4) sc_law.nd rfl (Or.inl rfl) (pe_own O_l_shuffled hr_l_shuffled pass0 (pa_cons (pv 0) (pa_cons pe_int (pa_cons (pv 2) pa_nil)))))
        (pss_cons (ps_set (i := 5) sc_law.nd rfl (Or.inl rfl) (pe_ifExp (pt_cmpR op_lt (pv 3) pe_int (nomark _)) pe_str pe_str))
        (pss_cons (ps_if (PW.pt (pw_and (pt_cmpR op_gt (pv 3) pe_int (nomark _)) (pw_and1 (pt_cmpR op_lt (pv 3) pe_int (nomark _)))))
        (pss_one (ps_asg (pe_ix ix_list (pe_lst (pa_cons (pe_un un_neg pe_int) (pa_cons (pv 2) (pa_cons (pe_op op_sub (pe_un un_neg pe_int) (pv 1)) (pa_cons (pe_op op_add (pv 2) (pv 1)) pa_nil))))) (pe_op op_sub (pv 3) pe_int) (fun _ _ => rfl)) (pg_sub (pv 4) (pe_op op_mod (pe_own O_l_cell_at hr_l_cell_at pass0 (pa_cons (pv 0) (pa_cons pe_int pa_nil))) (pv 2)) set_list)))
        pss_nil)
        (pss_cons (ps_if (PW.pt (pw_and (pt_cmpR op_eq (pv 3) pe_int (nomark _)) (pw_and1 (pt_cmpR op_eq (pv 2) pe_int (nomark _)))))
        (pss_one (ps_set (i := 5) sc_law.nd rfl (Or.inl rfl) pe_str))
        (pss_one (ps_if (pt_cmpR op_eq (pv 3) pe_int (nomark _))
          (pss_cons (ps_set (i := 6) sc_law.nd rfl (Or.inl rfl) (pe_op op_mod (pe_own O_l_cell_at hr_l_cell_at pass0 (pa_cons (pv 0) (pa_cons pe_int pa_nil))) (pv 2)))
            (pss_one (ps_asg (pe_ix ix_list (pv 4) (pe_op op_mod (pe_op op_add (pe_op op_add (pv 6) pe_int) (pe_op op_mod (pe_own O_l_cell_at hr_l_cell_at pass0 (pa_cons (pv 0) (pa_cons pe_int pa_nil))) (pe_op op_sub (pv 2) pe_int))) (pv 2)) (fun _ _ => rfl)) (pg_sub (pv 4) (pv 6) set_list))))
          pss_nil)))
        (pss_cons (ps_for PassesOwn.never rfl (pi_range1 (by rfl) T.range (pa_cons pe_int pa_nil)) (pg_name (i := 7) sc_law.nd rfl (Or.inl rfl))
        (pss_one (ps_if (pt_cmpR op_ne (pe_own O_l_tried hr_l_tried pass0 (pa_cons (pv 7) (pa_cons (pe_callTy cr_list (by rfl) T.list (by decide +kernel) (pa_cons (pv 4) pa_nil)) pa_nil))) (pv 5) (nomark _))
          (pss_one (ps_ret pe_bl))
          pss_nil)))
        (pss_one (ps_ret pe_bl)))))))))))), ?_⟩
    try dsimp only [cxOf]
    refine q_asg (ev_op (sv_cell (by walk_at "ea") hS (by omega)) (ev_op ev_c ev_c (rv_I (C := CPow) ⟨by decide, by decide, by decide⟩)) (rv_I (by show (0 : Int) < 10 ^ (30 : Int).toNat; decide))) fun H1 e1 => ?_
    have hfar : 0 ≤ cellAt ns 3 % 10 ^ (30 : Int).toNat := Int.emod_nonneg _ (by decide)
    generalize cellAt ns 3 % 10 ^ (30 : Int).toNat = far at hfar
    have hS1 := ex_l e1 hS
    obtain ⟨n0, en0, h1, h8⟩ : ∃ n : Nat, 1 + cellAt ns 0 % 40 = (n : Int) ∧ 1 ≤ n ∧ n ≤ 40 := ⟨(1 + cellAt ns 0 % 40).toNat, by omega, by omega, by omega⟩
    refine q_asg (v := .int (n0 : Int)) (ev_is (by walk_at "ev") (congrArg V.int en0)) fun H2 e2 => ?_
    have hS2 := ex_l e2 hS1
    refine q_asg (by walk_at "ev") fun H3 e3 => ?_
    have hS3 := ex_l e3 hS2
    have hw7 : 0 ≤ cellAt ns 1 % 8 ∧ cellAt ns 1 % 8 < 8 := by omega
    generalize cellAt ns 1 % 8 = way at hw7
    refine q_ifP (fun v => ∃ n : Nat, v = .int (n : Int) ∧ (way = 0 → n = 0) ∧ (way ≠ 0 → 1 ≤ n ∧ n ≤ 40)) (et_test (ev_op (ev_var rfl) ev_c (rv_eq rfl))) (fun hb => ⟨_, ev_c, 0, rfl, fun _ => rfl, fun h => absurd (V.int.inj (of_decide_eq_true hb)) h⟩) (fun hb => ⟨_, rfl, n0, rfl, fun h => absurd (congrArg V.int h) (of_decide_eq_false hb), fun _ => ⟨h1, h8⟩⟩) ?_
    rintro v H4 ⟨n1, rfl, a1, a2⟩ e4
    have hS4 := ex_l e4 hS3
    refine q_ifP (fun v => ∃ n : Nat, v = .int (n : Int) ∧ (way = 0 → n = 0) ∧ (way = 1 → 41 ≤ n ∧ n ≤ 45) ∧ (1 < way → 1 ≤ n ∧ n ≤ 40)) (et_test (ev_op (ev_var rfl) ev_c (rv_eq rfl))) (fun hb => ?_) (fun hb => ?_) ?_
    · have hb2 := V.int.inj (of_decide_eq_true hb)
      exact ⟨_, by walk_at "ev", (41 + cellAt ns 0 % 5).toNat, congrArg V.int (by omega), fun h => by omega, fun _ => by omega, fun h => by omega⟩
    · have hb2 : way ≠ 1 := fun h => of_decide_eq_false hb (congrArg V.int h)
      exact ⟨_, rfl, n1, rfl, a1, fun h => absurd h hb2, fun h => a2 (by omega)⟩
    rintro v H5 ⟨n, rfl, b0, b1, b2⟩ e5
    have hS5 := ex_l e5 hS4
    have hn45 : n ≤ 45 := by
      by_cases c0 : way = 0
      · have := b0 c0
        omega
      · by_cases c1 : way = 1
        · exact (b1 c1).2
        · have := (b2 (by omega)).2
          omega
    refine q_asgLP (sv_shuffled (n := n) (by walk_at "ea") hS5 (by omega) (by omega)) fun pp xs H6 npp e6 hpp hP => ?_
    obtain ⟨l, rfl, hl⟩ := hP
    have hll : l.length = n := by rw [hl.length_eq, List.length_range]
    rw [vn_ints] at hpp
    have hzl : (l.map Int.ofNat).length = n := by rw [List.length_map, hll]
    have eH6 : Ex H H6 := ((((e1.trans e2).trans e3).trans e4).trans e5).trans e6
    have npp0 : H pp = none := fresh_back ((((e1.trans e2).trans e3).trans e4).trans e5) npp
    refine q_asg (v := .str (if way < 7 then "outcome" else "done")) (ev_if (b := decide (way < 7)) (et_test (by walk_at "ev")) (fun hb => ev_is ev_c (by rw [if_pos (of_decide_eq_true hb)])) (fun hb => ev_is ev_c (by rw [if_neg (of_decide_eq_false hb)]))) fun H7 e7 => ?_
    refine q_whenN (fun σ' H' => ∃ ys, σ' = [some (.ref a), some (.int far), some (.int (n : Int)), some (.int way), some (.ref pp), some (.str (if way < 7 then "outcome" else "done")), none, none] ∧ Ex H H' ∧ H' pp = some (.lst (ys.map V.int)) ∧ ys.length = n ∧ (6 ≤ way → ys = l.map Int.ofNat) ∧ (way < 6 → OutBad ys)) (b := decide (1 < way) && decide (way < 6)) (et_and (et_test (by walk_at "ev")) fun _ => et_test (by walk_at "ev")) ?_ (fun hb H8 e8 hk => ?_) (fun hb H8 e8 => ?_)
    · rintro σ' H8 ⟨ys, rfl, e8, hys, hyl, g1, g2⟩
      have hS8 := ex_l e8 hS
      refine q_ifN (fun σ' H' => ∃ o6 zs w, σ' = [some (.ref a), some (.int far), some (.int (n : Int)), some (.int way), some (.ref pp), some (.str w), o6, none] ∧ H' pp = some (.lst (zs.map V.int)) ∧ zs.length ≤ 45 ∧ (OutBad zs → w = "outcome") ∧ (¬ OutBad zs → w = "done")) (b := decide (way = 6) && decide (n = 1)) (et_and (et_is (et_test (ev_op (ev_var rfl) ev_c (rv_eq rfl))) (decide_eq_decide.mpr ⟨fun h => V.int.inj h, fun h => by rw [h]⟩)) fun _ => et_is (et_test (ev_op (ev_var rfl) ev_c (rv_eq rfl))) (decide_eq_decide.mpr ⟨fun h => by have := V.int.inj h; omega, fun h => by rw [h]; rfl⟩)) ?_ (fun hb H9 e9 hk => ?_) (fun hb H9 e9 hk => ?_)
      · rintro σ' H9 ⟨o6, zs, w, rfl, hzs, hz45, k1, k2⟩
        refine q_forR1 (n := 2) (by walk_at "ea") (by omega) (fun i σ' H' => ∃ o7, σ' = [some (.ref a), some (.int far), some (.int (n : Int)), some (.int way), some (.ref pp), some (.str w), o6, o7] ∧ H' pp = some (.lst (zs.map V.int))) (fun H10 e10 => ⟨none, rfl, e10 _ _ hzs⟩) ?_ ?_
        · rintro i σ' H10 hi ⟨o7, rfl, hy⟩
          refine s_when (b := false) (et_is (et_test (ev_op (tried_fresh (K := K) (way := (i : Int)) (ns := zs) (w := w) (ev_var rfl) (el_list (ev_var rfl) (sq_of hy)) (by omega) k1 k2) (ev_var rfl) (rv_ne rfl))) (by rw [decide_eq_true rfl]; rfl)) (fun h => by cases h) fun _ H11 e11 => ⟨_, rfl, e11 _ _ hy⟩
        · rintro σ' H10 ⟨o7, rfl, hy⟩
          exact s_ret (by walk_at "ev") fun H11 e11 => kQ H11
      · rw [Bool.and_eq_true, decide_eq_true_eq, decide_eq_true_eq] at hb
        have hO : Outcome l := ⟨by omega, by omega, by rw [hll]; exact hl⟩
        refine s_asg ev_c fun H10 e10 => hk _ _ ⟨none, ys, "done", rfl, e10 _ _ (e9 _ _ hys), by omega, fun h => ?_, fun _ => rfl⟩
        rw [g1 (by omega)] at h
        exact absurd h (good_out hO)
      · have hb2 : ¬ (way = 6 ∧ n = 1) := fun ⟨h, g⟩ => by
          rw [decide_eq_true h, decide_eq_true g] at hb
          cases hb
        refine s_when (b := decide (way = 6)) (et_is (et_test (ev_op (ev_var rfl) ev_c (rv_eq rfl))) (decide_eq_decide.mpr ⟨fun h => V.int.inj h, fun h => by rw [h]⟩)) (fun hb3 H10 e10 => ?_) (fun hb3 H10 e10 => ?_)
        · have hw6 := of_decide_eq_true hb3
          have hn := b2 (by omega)
          have hn2 : 2 ≤ n := by
            have : n ≠ 1 := fun h => hb2 ⟨hw6, h⟩
            omega
          have hS10 := ex_l (e9.trans e10) hS8
          obtain ⟨j, hj, hjl⟩ := mod_nat (cellAt ns 2) (m := (n : Int)) (n := n) (by omega) (by omega)
          refine q_asg (v := .int (j : Int)) (ev_is (ev_op (sv_cell (by walk_at "ea") hS10 (by omega)) (ev_var rfl) (rv_I (by show (0 : Int) < _; omega))) (congrArg V.int hj)) fun H11 e11 => ?_
          have hS11 := ex_l e11 hS10
          obtain ⟨d, hd, hdl⟩ := mod_nat (cellAt ns 4) (m := (n : Int) - 1) (n := n - 1) (by omega) (by omega)
          have hys11 := (e9.trans (e10.trans e11)) _ _ hys
          have hyeq := g1 (by omega)
          have hkl : (j + 1 + d) % n < n := Nat.mod_lt _ (by omega)
          have hkn := step_ne hjl (d := d) (by omega)
          refine s_setL (j := j) hys11 (v := .int (Int.ofNat (l.getD ((j + 1 + d) % n) 0))) (ev_ixL (i := (((j + 1 + d) % n : Nat) : Int)) (ev_var rfl) (ev_is (ev_op (ev_op (ev_op (ev_var rfl) ev_c rv_I0) (ev_op (sv_cell (by walk_at "ea") hS11 (by omega)) (ev_op (ev_var rfl) ev_c rv_I0) (rv_I (by show (0 : Int) < _; omega))) rv_I0) (ev_var rfl) (rv_I (by show (0 : Int) < _; omega))) ?_) (sq_of hys11) (atI_nat ?_)) (ev_var rfl) (ev_var rfl) (by rw [List.length_map]; omega) fun H12 e12 => ?_
          · rw [hd, Int.natCast_emod]
            rfl
          · rw [hyeq, List.getElem?_map, List.getElem?_map, getD_some (by omega)]
            rfl
          · refine hk _ _ ⟨some (.int (j : Int)), ys.set j (Int.ofNat (l.getD ((j + 1 + d) % n) 0)), "outcome", ?_, ?_, by rw [List.length_set]; omega, fun _ => rfl, fun h => ?_⟩
            · rw [if_pos (by omega)]
              rfl
            · rw [upd_same, List.map_set]
            · rw [hyeq] at h
              exact absurd (out_twice hll hjl hkl hkn) h
        · have hw6 := of_decide_eq_false hb3
          refine hk _ _ ⟨none, ys, if way < 7 then "outcome" else "done", rfl, e10 _ _ (e9 _ _ hys), by omega, fun h => ?_, fun h => ?_⟩
          · by_cases c : way < 7
            · rw [if_pos c]
            · have hO : Outcome l := by
                have := b2 (by omega)
                exact ⟨by omega, by omega, by rw [hll]; exact hl⟩
              rw [g1 (by omega)] at h
              exact absurd h (good_out hO)
          · by_cases c : way < 7
            · exact absurd (g2 (by omega)) h
            · rw [if_neg c]
    · rw [Bool.and_eq_true, decide_eq_true_eq, decide_eq_true_eq] at hb
      obtain ⟨bad, hat, hbad⟩ : ∃ bad : Int, atI [V.int (-1), V.int (n : Int), V.int (-1 - far), V.int ((n : Int) + far)] (way - 2) = some (.int bad) ∧ (bad < 0 ∨ (n : Int) ≤ bad) := by
        have h4 : way = 2 ∨ way = 3 ∨ way = 4 ∨ way = 5 := by omega
        rcases h4 with h | h | h | h
        · rw [h]
          exact ⟨_, rfl, .inl (by omega)⟩
        · rw [h]
          exact ⟨_, rfl, .inr (by omega)⟩
        · rw [h]
          exact ⟨_, rfl, .inl (by omega)⟩
        · rw [h]
          exact ⟨_, rfl, .inr (by omega)⟩
      have hS8 := ex_l ((eH6.trans e7).trans e8) hS
      have hn1 := (b2 hb.1).1
      obtain ⟨j, hj, hjl⟩ := mod_nat (cellAt ns 2) (m := (n : Int)) (n := n) (by omega) (by omega)
      refine s_setL (j := j) (e8 _ _ (e7 _ _ hpp)) (v := .int bad) (ev_ixNL (i := way - 2) (el_lst (ea_cons (ev_un ev_c ru_neg) (ea_cons (ev_var rfl) (ea_cons (ev_op (ev_un ev_c ru_neg) (ev_var rfl) rv_I0) (ea_cons (ev_op (ev_var rfl) (ev_var rfl) rv_I0) ea_nil)))) (Nat.le_of_ble_eq_true rfl)) (fun H9 e9 => ev_op (ev_var rfl) ev_c rv_I0) hat) (ev_var rfl) (ev_is (ev_op (sv_cell (by walk_at "ea") hS8 (by omega)) (ev_var rfl) (rv_I (by show (0 : Int) < _; omega))) (congrArg V.int hj)) (by rw [List.length_map, hzl]; exact hjl) fun H9 e9 => ?_
      refine hk _ _ ⟨(l.map Int.ofNat).set j bad, rfl, (((eH6.trans e7).trans e8).trans e9).mut npp0, ?_, by rw [List.length_set]; exact hzl, fun h => by omega, fun _ => out_far (by omega) (by rw [hzl]; exact hbad)⟩
      rw [upd_same, List.map_set]
    · refine ⟨l.map Int.ofNat, rfl, (eH6.trans e7).trans e8, e8 _ _ (e7 _ _ hpp), hzl, fun _ => rfl, fun h => ?_⟩
      rw [Bool.and_eq_false_iff, decide_eq_false_iff_not, decide_eq_false_iff_not] at hb
      by_cases c : way = 0
      · exact .inl (by rw [hzl, b0 c]; decide)
      · refine .inr (.inl ?_)
        rw [hzl]
        have := (b1 (by omega)).1
        omega

end
def d_l_cell_at : He.DefD := ⟨("_law_cell_at", none), "_law_cell_at", "_law_cell_at", defArgs s_l_cell_at, defBody s_l_cell_at, defScope s_l_cell_at, [], []⟩
def d_l_shuffled : He.DefD := ⟨("_law_shuffled", none), "_law_shuffled", "_law_shuffled", defArgs s_l_shuffled, defBody s_l_shuffled, defScope s_l_shuffled, [], []⟩
def d_asked_outcome : He.DefD := ⟨("asked_outcome", none), "asked_outcome", "asked_outcome", defArgs s_asked_outcome, defBody s_asked_outcome, defScope s_asked_outcome, [], []⟩
def d_spans : He.DefD := ⟨("spans", none), "spans", "spans", defArgs s_spans, defBody s_spans, defScope s_spans, [], []⟩
def d_ways : He.DefD := ⟨("ways", none), "ways", "ways", defArgs s_ways, defBody s_ways, defScope s_ways, [], []⟩
def d_l_word_of : He.DefD := ⟨("_law_word_of", none), "_law_word_of", "_law_word_of", defArgs s_l_word_of, defBody s_l_word_of, defScope s_l_word_of, [], []⟩
def d_l_tried : He.DefD := ⟨("_law_tried", none), "_law_tried", "_law_tried", defArgs s_l_tried, defBody s_l_tried, defScope s_l_tried, [], []⟩
def d_law : He.DefD := ⟨("law", none), "law", "law", defArgs s_law, defBody s_law, defScope s_law, [], []⟩
def fns : List He.DefD := [d_l_cell_at, d_l_shuffled, d_asked_outcome, d_spans, d_ways, d_l_word_of, d_l_tried, d_law]
def fas : List He.Fa := [.free "ValueError", .free "bool", .free "int", .free "isinstance", .free "len", .free "list", .free "max", .free "min", .free "range", .free "reversed", .free "set", .free "sorted", .free "str", .free "sum", .free "tuple", .glo "_law_cell_at", .glo "_law_shuffled", .glo "asked_outcome", .glo "spans", .glo "ways", .glo "_law_word_of", .glo "_law_tried", .glo "law", .int "LONGEST" 40, .glo "NoOutcome", .glo "NoQuay", .glo "NoTree", .glo "NoRow", .glo "NoRank", .glo "NoNote", .glo "MoorError"]
def mores : Kf → Bool := wordsB
abbrev R : PySem.W.OpenRow := PySem.W.OpenLaw.row PySem.Challenge.rw_wishmoor_k12_refused_outcomes
abbrev hk : PySem.W.Hook := hookM 5 fas fns mores
def ob (s : PySem.W.SharedT) : AlM := obsM 5 fas fns mores (HandSHeadRun.getT s)
theorem ob_eq (s : PySem.W.SharedT) : ob s = hk.obs s.abs := obsM_eq (HandSHeadRun.getT_eq s)
def loose : List PySem.Str := ["asked_outcome", "spans", "ways", "_law_cell_at", "_law_shuffled", "_law_word_of", "_law_tried", "LONGEST", "MoorError", "NoQuay", "NoRow", "NoOutcome", "NoTree", "NoRank", "NoNote"]
set_option maxHeartbeats 0 in
theorem run (w : World) : HandSHeadRun.RunEq R (PySem.W.view R.prog [18]) hk ob 4000 loose w := by
  intro os
  kernel_rfl
theorem facts {P : Program} {w : World} {K : Kf} {h : Heap} {mg : Mg} {f : Addr} (X : K.In h) (G : h.Ns mainGlobals mg) (hfa : mg ("law" : Str) = some (.ref f)) (c : SaysM fas fns mores K) :
    ∃ fd : FuncData, (∀ (s : Shared) (v : Value), BindsTo s fd ⟨[v], []⟩ [("script", v)]) ∧ ∀ base : Heap, K.In base → base.Ns mainGlobals mg → FnOk P w K mg base CX0 5 f fd ["script"] (spLaw K) := by
  have T : Txt mg := ⟨He.free_ok X G (c.1.fact 4), He.free_ok X G (c.1.fact 8), He.free_ok X G (c.1.fact 5), He.free_ok X G (c.1.fact 3), He.free_ok X G (c.1.fact 2), He.free_ok X G (c.1.fact 1), He.free_ok X G (c.1.fact 12), He.free_ok X G (c.1.fact 14), He.free_ok X G (c.1.fact 9), He.free_ok X G (c.1.fact 11), He.free_ok X G (c.1.fact 13), He.free_ok X G (c.1.fact 7), He.free_ok X G (c.1.fact 6), He.free_ok X G (c.1.fact 10), He.free_ok X G (c.1.fact 0)⟩
  obtain ⟨fd_l_cell_at, F_l_cell_at⟩ := c.1.def_ 0 (d := d_l_cell_at) rfl
  have D_l_cell_at : Def K mg "_law_cell_at" s_l_cell_at := ⟨_, fd_l_cell_at, F_l_cell_at, He.glo_ok X G (c.1.fact 15)⟩
  obtain ⟨fd_l_shuffled, F_l_shuffled⟩ := c.1.def_ 1 (d := d_l_shuffled) rfl
  have D_l_shuffled : Def K mg "_law_shuffled" s_l_shuffled := ⟨_, fd_l_shuffled, F_l_shuffled, He.glo_ok X G (c.1.fact 16)⟩
  obtain ⟨fd_asked_outcome, F_asked_outcome⟩ := c.1.def_ 2 (d := d_asked_outcome) rfl
  have D_asked_outcome : Def K mg "asked_outcome" s_asked_outcome := ⟨_, fd_asked_outcome, F_asked_outcome, He.glo_ok X G (c.1.fact 17)⟩
  obtain ⟨fd_spans, F_spans⟩ := c.1.def_ 3 (d := d_spans) rfl
  have D_spans : Def K mg "spans" s_spans := ⟨_, fd_spans, F_spans, He.glo_ok X G (c.1.fact 18)⟩
  obtain ⟨fd_ways, F_ways⟩ := c.1.def_ 4 (d := d_ways) rfl
  have D_ways : Def K mg "ways" s_ways := ⟨_, fd_ways, F_ways, He.glo_ok X G (c.1.fact 19)⟩
  obtain ⟨fd_l_word_of, F_l_word_of⟩ := c.1.def_ 5 (d := d_l_word_of) rfl
  have D_l_word_of : Def K mg "_law_word_of" s_l_word_of := ⟨_, fd_l_word_of, F_l_word_of, He.glo_ok X G (c.1.fact 20)⟩
  obtain ⟨fd_l_tried, F_l_tried⟩ := c.1.def_ 6 (d := d_l_tried) rfl
  have D_l_tried : Def K mg "_law_tried" s_l_tried := ⟨_, fd_l_tried, F_l_tried, He.glo_ok X G (c.1.fact 21)⟩
  obtain ⟨fd, F⟩ := c.1.def_ 7 (d := d_law) rfl
  have e := hfa.symm.trans (He.glo_ok X G (c.1.fact 22))
  cases e
  obtain ⟨tLONGEST, cLONGEST⟩ := He.int_ok X G (c.1.fact 23)
  have words := words_ok c.2
  have gNoOutcome := He.glo_ok X G (c.1.fact 24)
  have gNoQuay := He.glo_ok X G (c.1.fact 25)
  have gNoTree := He.glo_ok X G (c.1.fact 26)
  have gNoRow := He.glo_ok X G (c.1.fact 27)
  have gNoRank := He.glo_ok X G (c.1.fact 28)
  have gNoNote := He.glo_ok X G (c.1.fact 29)
  have gMoorError := He.glo_ok X G (c.1.fact 30)
  have E_NoOutcome := exc_of gNoOutcome (words.x 2 (by decide))
  have b := FunD.bindsA (ps := ["script"]) F fun _ _ _ _ _ _ us hl => match us, hl with | [_], _ => rfl
  refine ⟨fd, fun s v => b s [v] rfl, fun base _ _ => ?_⟩
  have O_l_cell_at : Own P w K mg base CX0 1 "_law_cell_at" ["script", "k"] (sp_l_cell_at K) := ok_l_cell_at D_l_cell_at T
  have O_l_shuffled : Own P w K mg base CX0 2 "_law_shuffled" ["script", "first", "size"] (sp_l_shuffled K) := ok_l_shuffled D_l_shuffled T O_l_cell_at
  have O_asked_outcome : Own P w K mg base (L2.CX P w) 1 "asked_outcome" ["places"] (sp_asked_outcome K) := ok_asked_outcome D_asked_outcome T cLONGEST E_NoOutcome
  have O_spans : Own P w K mg base (L2.CX P w) 2 "spans" ["places"] (sp_spans K) := ok_spans D_spans T O_asked_outcome
  have O_ways : Own P w K mg base (L2.CX P w) 3 "ways" ["places"] (sp_ways K) := ok_ways D_ways T O_spans
  have O_l_word_of : OwnP P w K mg base 1 "_law_word_of" ["e"] (sp_l_word_of K) := ok_l_word_of D_l_word_of T gNoQuay gNoTree gNoOutcome gNoRow gNoRank gNoNote
  have O_l_tried : Own P w K mg base CX0 4 "_law_tried" ["way", "places"] (sp_l_tried K) := ok_l_tried D_l_tried T gMoorError words O_spans O_ways O_l_word_of
  exact ok_law F T O_l_cell_at O_l_shuffled O_l_tried

end Wm
open PySem PySem.W PySem.Calls PyProof.Rows
set_option maxHeartbeats 0 in
theorem PySem.Challenge.cw_wishmoor_k12_refused_outcomes_holds : PySem.Challenge.rw_wishmoor_k12_refused_outcomes.Holds := by
  w_on; o_law
  refine HandSHeadRun.head_any (r := OpenLaw.row PySem.Challenge.rw_wishmoor_k12_refused_outcomes) (q := view (OpenLaw.row PySem.Challenge.rw_wishmoor_k12_refused_outcomes).prog [18]) (H := Wm.hk) (ob := Wm.ob) (M := 4000) (loose := Wm.loose) (d := HandSHeadRun.topDef (OpenLaw.row PySem.Challenge.rw_wishmoor_k12_refused_outcomes).prog 18) (kwd := []) Wm.ob_eq
    (by kernel_rfl) (fun s => by kernel_rfl) Wm.run (by kernel_rfl) (by kernel_rfl) (by kernel_rfl) (by rfl) (by first | assumption | decide +kernel) (by decide +kernel) ⟨rfl, rfl, rfl, rfl, rfl, by decide +kernel⟩ ?hw ?hc
  case hw => w_witness2
  case hc =>
    refine L2.walk_ofE (l := PySem.Challenge.rw_wishmoor_k12_refused_outcomes) (n := 63) (k := 5) (x := "script") (CX := L2.CX0) rfl (by decide) (by kernel_rfl) ⟨rfl, by decide, by decide⟩ ?F (fun _ _ _ _ z => z)
    intro w mg fa h Y G hmg0
    obtain ⟨K, KX, c⟩ := Y
    have hmg : mg ("law" : PySem.Str) = some (.ref fa) := by
      have e : (HandSHeadRun.topDef (OpenLaw.row PySem.Challenge.rw_wishmoor_k12_refused_outcomes).prog 18).name = ("law" : PySem.Str) := by kernel_rfl
      rw [← e]
      exact hmg0
    obtain ⟨fd, hb, hF⟩ := Wm.facts (P := (PySem.Challenge.rw_wishmoor_k12_refused_outcomes).prog) (w := w) KX G hmg c
    exact ⟨K, fd, Wm.spLaw K, KX, hb, fun H a ns hl _ hS => ⟨a, ns, rfl, hS, hl, fun _ => rfl⟩, hF⟩
