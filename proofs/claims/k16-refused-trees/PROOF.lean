import PyProof.Rows.All
import Wide.All
import OpenK.AllK
import Wide.FinOn
import KE.KStateDown
import Lean
import HandS.Base
import HandS.Call
import HandS.List
import HandS.Comp
import HandS.Ends
import HandS.Iter
import HandS.Dict
import HandS.More
import HandS.Words
import HandS.WordsList
import HandS.WordsExc
import HandS.Exc
import HandS.ExcOwn
import HandS.TryOnly
import HandS.Evl
import HandS.IsInst
import HandS.Conv
import HandS.RevRange
import HandS.Rev
import HandS.SortRule
import HandS.SortInts
import HandS.SetFor
import HandS.Defaults
import HandS.Head0
import HandS.Head1
import HandS.Head2
import HandS.HeadEnd
import HandS.HeadHook1
import HandS.HeadHook2
import HandS.HotCalls
import HandS.ExcIs
import PySem.Challenge.RW_wishmoor_k16_refused_trees
set_option Elab.async false
set_option linter.all false
set_option maxRecDepth 100000
set_option maxHeartbeats 400000
/-! THE LAYER: a def as the top leaves it (Def), as callers use it (Own), and what Evl lacks -/
namespace Wm
open PySem PySem.Spec PyProof.Rows L2 Evl
abbrev Mg := Str → Option Value
abbrev Kf := PySem.W.Frag

structure Def (K : Kf) (mg : Mg) (x : Str) (st : Stmt) : Prop where
  ex : ∃ (f : Addr) (fd : FuncData), FunD K x x (defArgs st) (defBody st) (defScope st) [] [] f fd ∧ mg x = some (.ref f)
structure Own (P : Program) (w : World) (K : Kf) (mg : Mg) (base : Heap) (CX : CXT) (k : Nat) (x : Str) (ps : List Str) (sp : Sp) : Prop where
  ex : ∃ (f : Addr) (fd : FuncData), FnOk P w K mg base CX k f fd ps sp ∧ mg x = some (.ref f) ∧ PySem.W.keepIn K (.ref f) = true ∧ Binds K fd ps []
abbrev BindsWell (x : Str) (st : Stmt) (ps : List Str) : Prop := ∀ (kV doc pm : Value) (an : Option Addr) (cdv ct : Value) (us : List Value), us.length = ps.length →
  bindArgs (PySem.W.fnOf x x (defArgs st) (defBody st) (defScope st) .none kV doc pm an cdv ct) ⟨us, []⟩ = pure (ps.zip us)
section
variable {P : Program} {w : World} {K : Kf} {mg : Mg} {base : Heap}
/-- nothing is raised out of the def -/
theorem Def.calm {x : Str} {st : Stmt} {N ps : List Str} {k : Nat} {sp : Sp} (D : Def K mg x st) (S : FnScope N ps (defScope st)) (b : BindsWell x st ps) (len : ∀ vs H Q E, sp vs H Q E → vs.length = ps.length)
    (body : ∀ (f : Addr) (cdv : Value) (A : Around) (outer : List Env) (s : Shared) (H : Hp) (vs : List V) (Q : VK) (E : XK), Room k (A.deeper (envOfC x (defScope st) s.heap.objs.size f cdv)) → sp vs H Q E →
      ∃ t, PSs (cxOf CX0 P w K mg base N x (defScope st) f cdv A outer s H E).nox (defBody st) t ∧ t { nx := fun _ H' => Q .non H', rt := Q } (start N vs) H) : Own P w K mg base CX0 (k + 1) x ps sp := by
  obtain ⟨f, fd, F, m⟩ := D.ex
  refine ⟨f, fd, F.ok S len fun cdv A outer s H vs Q E hr h => ?_, m, F.kp, F.bindsN b⟩
  obtain ⟨t, h1, h2⟩ := body f cdv A outer s H vs Q E hr h
  exact ⟨t, h1.nox, h2⟩
/-- something may be raised out of it -/
theorem Def.hot {x : Str} {st : Stmt} {N ps : List Str} {k : Nat} {sp : Sp} (D : Def K mg x st) (S : FnScope N ps (defScope st)) (b : BindsWell x st ps) (len : ∀ vs H Q E, sp vs H Q E → vs.length = ps.length)
    (body : ∀ (f : Addr) (cdv : Value) (A : Around) (outer : List Env) (s : Shared) (H : Hp) (vs : List V) (Q : VK) (E : XK), Room k (A.deeper (envOfC x (defScope st) s.heap.objs.size f cdv)) → sp vs H Q E →
      ∃ t, PSs (cxOf (L2.CX P w) P w K mg base N x (defScope st) f cdv A outer s H E) (defBody st) t ∧ t { nx := fun _ H' => Q .non H', rt := Q } (start N vs) H) : Own P w K mg base (L2.CX P w) (k + 1) x ps sp := by
  obtain ⟨f, fd, F, m⟩ := D.ex
  exact ⟨f, fd, F.ok S len fun cdv A outer s H vs Q E hr h => body f cdv A outer s H vs Q E hr h, m, F.kp, F.bindsN b⟩
end
section
variable {X : Cx} {CX : CXT} {k : Nat} {ps : List Str} {sp : Sp} {E : XK} {x : Str} {p pos : Pos} {e : Expr} {es : List Expr} {t : TA}
theorem pe_own (F : Own X.prog X.w X.K X.mg X.base CX k x ps sp) (hr : Room k X.A) (hx : Passes CX X E) (ha : PA X (e :: es) t) (hg : Gl X x := by rfl) (hdb : (x == ("__debug__" : Str)) = false := by decide)
    (he : starEach (e :: es) X.env = (false, eval e X.env) :: starEach es X.env := by rfl) (hpl : (backTo pos (starEach es X.env)).any (·.1) = false := by rfl) : PE X (.Call (.Name x p) (e :: es) [] pos) (tCall sp [] E t) := by
  obtain ⟨f, fd, G, m, kp, b⟩ := F.ex
  exact pe_call G hr hg m kp b .nil hx ha hdb he hpl
theorem op_inK {K : Kf} (h : X.K = K) : OpR X (compareOp .In) (rIn K false) := h ▸ op_in_seq
theorem op_notInK {K : Kf} (h : X.K = K) : OpR X (compareOp .NotIn) (rIn K true) := h ▸ op_notIn_seq
theorem ix_listK {K : Kf} (h : X.K = K) : IxR X (rIxL K) := h ▸ ix_list
theorem ix_tupK {K : Kf} (h : X.K = K) : IxR X (rIxT K) := h ▸ ix_tup
theorem op_eqK {K : Kf} (h : X.K = K) (hu : X.A.units + 64 < cLine) : OpR X (compareOp .Eq) (rEqD K) := h ▸ op_eqD hu
theorem cr_lenK {K : Kf} (h : X.K = K) : CallR X (.builtin "len") (rLenS K) := h ▸ call_len_seq
theorem pg_tupK {K : Kf} {es : List Expr} {j n : Nat} {g : TGs} {pos : Pos} (h : X.K = K) (hc : X.calm = true) (hs : PGs X es g) (hn : (assignEach es X.env).length = n := by rfl) (ht : (assignEach es X.env).findIdx? (·.1) = none := by rfl) : PG X (.Tuple es j pos) (gTup K n g) := h ▸ pg_tup hc hs hn ht
theorem mt_indexK {K : Kf} (h : X.K = K) : MtR X "list.index" (rIndex K) := h ▸ mt_index
theorem pe_bmK {K : Kf} {o e : Expr} {es : List Expr} {to : TE} {t : TA} {name : Str} {apos cpos : Pos} {T id : String} {r : V → List V → Hp → VK → Prop} (h : X.K = K) (pa : PlainAttrs T) (slot : Slot T name id) (hty : typeOf (.builtin id) = pure (.type "method_descriptor")) (hm : MtR X id r) (ho : PE X o to) (ha : PA X (e :: es) t) (hbase : attributeBase o name X.env (eval o X.env) = eval o X.env := by rfl) (hfew : ((backTo cpos (starEach (e :: es) X.env)).all (fun x => !x.1) && (backToKw cpos (keywordEach [] X.env)).all (fun x => x.1.isSome) && decide ((e :: es).length + ([] : List Keyword).length + (if ([] : List Keyword).isEmpty then 0 else 1) < 30)) = true := by rfl) (hline : (apos.endLine == cpos.line) = true := by rfl) (hs : starEach (e :: es) X.env = (false, eval e X.env) :: starEach es X.env := by rfl) (hplain : (backTo cpos (starEach es X.env)).any (·.1) = false := by rfl) : PE X (.Call (.Attribute o name apos) (e :: es) [] cpos) (tBM K T r to t) := h ▸ pe_bm pa slot hty hm ho ha hbase hfew hline hs hplain
theorem cr_len : CallR X (.builtin "len") (rLenS X.K) := call_len_seq
theorem cr_list : CallR X (.type "list") (rListS X.K) := call_list_of
end
/-- the names that the program leaves to the built-ins -/
structure Txt (mg : Mg) : Prop where
  len : mg "len" = none
  range : mg "range" = none
  list : mg "list" = none
  isinstance : mg "isinstance" = none
  int : mg "int" = none
  bool : mg "bool" = none
  str : mg "str" = none
  tuple : mg "tuple" = none
  reversed : mg "reversed" = none
  sorted : mg "sorted" = none
  sum : mg "sum" = none
  min : mg "min" = none
  max : mg "max" = none
  set : mg "set" = none
  ValueError : mg "ValueError" = none
/-- the law's promise -/
def spLaw (K : Kf) : Sp := fun vs H Q _ => ∃ (a : Addr) (ns : List Int), vs = [.ref a] ∧ SqL K H a (ns.map V.int) ∧ ns.length ≤ 63 ∧ ∀ H', Q (.bl true) H'
/-! ### promises -/
def RetU (xs : List V) (H : Hp) (Q : VK) : Prop := ∀ p H2, H p = none → Ex H H2 → H2 p = some (.tup xs) → Q (.ref p) H2
section
variable {K : Kf} {σ : L2.St} {H H' : Hp} {ta tb te tx : TE} {t u : TT} {x y z v : V} {r : R2}
theorem retV_mono {Q : VK} (k : RetV v H Q) (e : Ex H H') : RetV v H' Q := fun H2 e2 => k H2 (e.trans e2)
theorem retL_mono {xs : List V} {Q : VK} (k : RetL xs H Q) (e : Ex H H') : RetL xs H' Q := fun p H2 hp e2 h => k p H2 (fresh_back e hp) (e.trans e2) h
/-- isinstance of a built-in class -/
theorem ev_isi {a b : String} {r : Bool} (ha : Ev ta σ H x) (ht : ∀ H1, Ex H H1 → TyX K H1 x (.type a)) (hk : kitB a b = some r) : Ev (tCB (rIsi K) (tCons ta (tCons (tC (.ty b)) tNil))) σ H (.bl r) := fun H1 e Q q =>
  ha H1 e _ fun H2 e2 => ⟨x, .ty b, .type a, .type b, r, rfl, ClsV.ty b, ht H2 (e.trans e2), kit_ty hk, q H2 e2⟩
theorem et_of {b : Bool} (h : Ev te σ H (.bl b)) : EvT (tTest te) σ H b := et_test h
/-- a call: what it hands back is any value of which P -/
def EvP (te : TE) (σ : L2.St) (H : Hp) (P : V → Hp → Prop) : Prop := ∀ H1, Ex H H1 → ∀ Q : VK, (∀ v H2, Ex H1 H2 → P v H2 → Q v H2) → te σ H1 Q
end
end Wm
/-! ### the head's facts, with one Bool more -/
namespace Wm
open PySem PySem.Spec PyProof.Rows L2
abbrev AlM : Type := He.AlD × Bool
def obsM (n : Nat) (fa : List He.Fa) (fn : List He.DefD) (mo : Kf → Bool) (g : Addr → Option Obj) : AlM := (He.obsDG n fa fn g, mo (He.frG g (He.asD g n)))
def SaysM (fa : List He.Fa) (fn : List He.DefD) (mo : Kf → Bool) (K : Kf) : Prop := He.SaysD fa fn K ∧ mo K = true
def hookM (n : Nat) (fa : List He.Fa) (fn : List He.DefD) (mo : Kf → Bool) : PySem.W.Hook where
  α := AlM
  obs := fun z => obsM n fa fn mo z.heap.get?
  val := fun _ => (He.valD fn, true)
  says := fun _ hp => ∃ K : Kf, K.In hp ∧ SaysM fa fn mo K
  of := fun _ _ e => ⟨_, He.frG_in, (Prod.mk.inj e).1, (Prod.mk.inj e).2⟩
  keeps := fun _ _ _ ⟨K, hK, c⟩ z => ⟨K, PySem.W.Frag.In.keeps hK z, c⟩
theorem obsM_eq {n : Nat} {fa : List He.Fa} {fn : List He.DefD} {mo : Kf → Bool} {g : Addr → Option Obj} {z : Shared} (h : ∀ a, g a = z.heap.get? a) : obsM n fa fn mo g = (hookM n fa fn mo).obs z := by
  rw [show g = z.heap.get? from funext h]
  rfl
end Wm

/-! ### the words of the walk: «ex» an extension, «sq» a list that stands, «ev» an expression's value, «et» a test's answer, «side» what an operator asks -/
local macro_rules | `(tactic| walk_at "ex") => `(tactic| first
  | assumption
  | exact Evl.Ex.refl _
  | (refine Evl.Ex.trans ?_ (by assumption); walk_at "ex"))
namespace Wm
open PySem PySem.Spec PyProof.Rows L2 Evl
section
variable {K : Kf} {σ : L2.St} {H H' : Hp} {ta tb te tx : TE} {t u : TT} {x y z v : V} {r : R2} {a : Addr} {xs : List V}
theorem sq_ex (e : Ex H H') (h : H a = some (.lst xs)) : SqL K H' a xs := sq_of (e a _ h)
theorem st_ex (e : Ex H H') (h : H a = some (.tup xs)) : SqT K H' a xs := st_of (e a _ h)
theorem rv_isN : RV (fun x y H Q => y = .non ∧ Q (.bl (decide (x = .non))) H) x .non H (.bl (decide (x = .non))) := fun H1 _ _ q => ⟨rfl, q H1 (Ex.refl H1)⟩
theorem rv_notN : RV (fun x y H Q => y = .non ∧ Q (.bl (!decide (x = .non))) H) x .non H (.bl (!decide (x = .non))) := fun H1 _ _ q => ⟨rfl, q H1 (Ex.refl H1)⟩
theorem rv_cat {p q : Addr} {xs ys : List V} (hp : H p = some (.lst xs)) (hq : H q = some (.lst ys)) (hz : xs.length + ys.length ≤ 100000) {Q : VK} (k : ∀ l, H l = none → Q (.ref l) (upd H l (.lst (xs ++ ys)))) : rCat (.ref p) (.ref q) H Q :=
  ⟨p, q, xs, ys, rfl, rfl, hp, hq, sz_of hz, k⟩
/-- xs + [..]: a new list -/
theorem el_cat {p : Addr} {xs ys : List V} (ha : Ev ta σ H (.ref p)) (hp : H p = some (.lst xs)) (hb : EvL tb σ H ys) (hz : xs.length + ys.length ≤ 100000) : EvL (tOp rCat ta tb) σ H (xs ++ ys) := fun H1 e Q q =>
  ha H1 e _ fun H2 e2 => hb H2 (e.trans e2) _ fun b H3 _ e3 hb3 => rv_cat (((e.trans e2).trans e3) p _ hp) hb3 hz fun l hl => q l _ (fresh_back (e2.trans e3) hl) ((e2.trans e3).trans (Ex.new hl)) upd_same
/-- [..] + [..] -/
theorem el_catLL {xs ys : List V} (ha : EvL ta σ H xs) (hb : EvL tb σ H ys) (hz : xs.length + ys.length ≤ 100000) : EvL (tOp rCat ta tb) σ H (xs ++ ys) := fun H1 e Q q =>
  ha H1 e _ fun p H2 _ e2 hp => hb H2 (e.trans e2) _ fun b H3 _ e3 hb3 => rv_cat (e3 p _ hp) hb3 hz fun l hl => q l _ (fresh_back (e2.trans e3) hl) ((e2.trans e3).trans (Ex.new hl)) upd_same
theorem el_is {xs ys : List V} (h : EvL te σ H xs) (e : xs = ys) : EvL te σ H ys := e ▸ h
/-- a call that hands back a value, a list, a tuple; what is told of the arguments is told at the heap of the call -/
theorem ev_callV {sp : Sp} {E : XK} {ta : TA} {vs : List V} (h : EvA ta σ H vs) (hs : ∀ H1, Ex H H1 → ∀ Q : VK, RetV z H1 Q → ∀ E : XK, sp vs H1 Q E) : Ev (tCall sp [] E ta) σ H z := fun H1 e Q q =>
  h H1 e _ fun H2 e2 => by
    rw [List.append_nil]
    exact hs H2 (e.trans e2) Q (fun H3 e3 => q H3 (e2.trans e3)) E
theorem el_callL {sp : Sp} {E : XK} {ta : TA} {vs xs : List V} (h : EvA ta σ H vs) (hs : ∀ H1, Ex H H1 → ∀ Q : VK, RetL xs H1 Q → ∀ E : XK, sp vs H1 Q E) : EvL (tCall sp [] E ta) σ H xs := fun H1 e Q q =>
  h H1 e _ fun H2 e2 => by
    rw [List.append_nil]
    exact hs H2 (e.trans e2) Q (fun p H3 hp e3 h3 => q p H3 (fresh_back e2 hp) (e2.trans e3) h3) E
theorem eu_callU {sp : Sp} {E : XK} {ta : TA} {vs xs : List V} (h : EvA ta σ H vs) (hs : ∀ H1, Ex H H1 → ∀ Q : VK, RetU xs H1 Q → ∀ E : XK, sp vs H1 Q E) : EvU (tCall sp [] E ta) σ H xs := fun H1 e Q q =>
  h H1 e _ fun H2 e2 => by
    rw [List.append_nil]
    exact hs H2 (e.trans e2) Q (fun p H3 hp e3 h3 => q p H3 (fresh_back e2 hp) (e2.trans e3) h3) E
theorem ev_ixL {i : Int} {p : Addr} {xs : List V} (ha : Ev ta σ H (.ref p)) (hb : Ev tb σ H (.int i)) (h : SqL K H p xs) (hv : atI xs i = some v) : Ev (tOp (rIxL K) ta tb) σ H v := ev_op ha hb (rv_ixL h hv)
theorem ev_ixNL {i : Int} {xs : List V} (ha : EvL ta σ H xs) (hb : ∀ H1, Ex H H1 → Ev tb σ H1 (.int i)) (hv : atI xs i = some v) : Ev (tOp (rIxL K) ta tb) σ H v := ev_opL1 ha hb fun _ _ h _ => rv_ixL (sq_of h) hv
theorem atI_int {ns : List Int} {i : Int} (h0 : 0 ≤ i) (h1 : i < ns.length) : atI (ns.map V.int) i = some (.int (ns.getD i.toNat 0)) := by
  obtain ⟨j, rfl⟩ := Int.eq_ofNat_of_zero_le h0
  refine atI_nat ?_
  have hj : j < ns.length := by omega
  rw [List.getElem?_map, List.getElem?_eq_getElem hj, Int.toNat_natCast, List.getD_eq_getElem?_getD, List.getElem?_eq_getElem hj]
  rfl
theorem atI_get? {xs : List V} {i : Int} {j : Nat} (hj : i = (j : Int)) (h : xs[j]? = some v) : atI xs i = some v := by
  rw [hj]
  exact atI_nat h
/-- reading a slot of a list of ints -/
theorem map_at {ns : List Int} {i : Nat} {w : V} (h : (ns.map V.int)[i]? = some w) : ∃ z, w = .int z ∧ ns[i]? = some z ∧ i < ns.length ∧ z ∈ ns ∧ ns.getD i 0 = z := by
  rw [List.getElem?_map] at h
  cases e : ns[i]? with
  | none =>
    rw [e] at h
    cases h
  | some z =>
    rw [e] at h
    obtain ⟨hi, _⟩ := List.getElem?_eq_some_iff.mp e
    exact ⟨z, (Option.some.inj h).symm, rfl, hi, List.mem_of_getElem? e, by rw [List.getD_eq_getElem?_getD, e]; rfl⟩
end
/-! ### == of lists -/
def vD : V → PyData
  | .non => .none
  | .bl b => .bool b
  | .int i => .int i
  | .str s => .str s
  | _ => .none
def flat1 : V → Bool
  | .non => true
  | .bl _ => true
  | .int _ => true
  | .str _ => true
  | _ => false
theorem dpAll_flat {K : Kf} {H : Hp} : ∀ {xs : List V}, xs.all flat1 = true → DpAll K H xs (xs.map vD)
  | [], _ => .nil
  | x :: r, h => by
    rw [List.all_cons, Bool.and_eq_true] at h
    refine .cons ?_ (dpAll_flat h.2)
    cases x with
    | non => exact .non
    | bl b => exact .bl b
    | int i => exact .int i
    | str s => exact .str s
    | _ => exact Bool.noConfusion h.1
theorem all_int (ns : List Int) : (ns.map V.int).all flat1 = true := by
  rw [List.all_map, List.all_eq_true]
  intro z _
  rfl
end Wm
local macro_rules | `(tactic| walk_at "sq") => `(tactic| first
  | assumption
  | exact Evl.sq_of (by assumption)
  | (refine Evl.ex_l ?_ (by assumption); walk_at "ex")
  | (refine Wm.sq_ex ?_ (by assumption); walk_at "ex"))
local macro_rules | `(tactic| walk_at "side") => `(tactic| first
  | assumption
  | exact ⟨by decide, by decide⟩
  | exact ⟨by omega, by omega⟩
  | exact Or.inl ⟨by omega, by omega⟩
  | exact Or.inr ⟨by omega, by omega⟩
  | (show (0 : Int) < _; omega)
  | (show (0 : Int) < _; decide)
  | omega)
local macro_rules | `(tactic| walk_at "at") => `(tactic| first
  | assumption
  | exact L2.atI_nat (by assumption)
  | exact Wm.atI_int (by omega) (by omega)
  | exact Wm.atI_get? (by omega) (by assumption))
local macro_rules | `(tactic| walk_at "call") => `(tactic| fail "no call")
local macro_rules | `(tactic| walk_at "ev") => `(tactic| first
  | with_reducible exact Evl.ev_c
  | ((with_reducible refine' Evl.ev_var ?h); (case h => rfl))
  | ((with_reducible refine' Evl.ev_op ?ha ?hb Evl.rv_I0); (case ha => walk_at "ev"); (case hb => walk_at "ev"))
  | ((with_reducible refine' Evl.ev_op ?ha ?hb (Evl.rv_I ?hc)); (case ha => walk_at "ev"); (case hb => walk_at "ev"); (case hc => walk_at "side"))
  | ((with_reducible refine' Evl.ev_op ?ha ?hb (Evl.rv_eq ?hc)); (case ha => walk_at "ev"); (case hb => walk_at "ev"); (case hc => rfl))
  | ((with_reducible refine' Evl.ev_op ?ha ?hb (Evl.rv_ne ?hc)); (case ha => walk_at "ev"); (case hb => walk_at "ev"); (case hc => rfl))
  | ((with_reducible refine' Evl.ev_op ?ha Evl.ev_c Wm.rv_isN); (case ha => walk_at "ev"))
  | ((with_reducible refine' Evl.ev_op ?ha Evl.ev_c Wm.rv_notN); (case ha => walk_at "ev"))
  | ((with_reducible refine' Evl.ev_len ?ha ?hb); (case ha => walk_at "ev"); (case hb => walk_at "sq"))
  | ((with_reducible refine' Wm.ev_ixL ?ha ?hb ?hc ?hd); (case ha => walk_at "ev"); (case hb => walk_at "ev"); (case hc => walk_at "sq"); (case hd => walk_at "at"))
  | ((with_reducible refine' Evl.ev_un ?ha Evl.ru_neg); (case ha => walk_at "ev"))
  | ((with_reducible refine' Evl.ev_notV ?ha); (case ha => walk_at "ev"))
  | ((with_reducible refine' Evl.ev_andV ?ha ?hb); (case ha => walk_at "ev"); (case hb => (intro _; walk_at "ev")))
  | ((with_reducible refine' Evl.ev_orV ?ha ?hb); (case ha => walk_at "ev"); (case hb => (intro _; walk_at "ev")))
  | walk_at "call")
local macro_rules | `(tactic| walk_at "ea") => `(tactic| first
  | with_reducible exact Evl.ea_nil
  | ((with_reducible refine' Evl.ea_cons ?ha ?hb); (case ha => walk_at "ev"); (case hb => walk_at "ea")))
local macro_rules | `(tactic| walk_at "el") => `(tactic| first
  | ((with_reducible refine' Evl.el_lst ?ha ?hb); (case ha => walk_at "ea"); (case hb => first | decide | exact Nat.le_of_ble_eq_true rfl | simp))
  | ((with_reducible refine' Evl.el_list ?ha ?hb); (case ha => walk_at "ev"); (case hb => walk_at "sq"))
  | walk_at "call")
local macro_rules | `(tactic| walk_at "et") => `(tactic| first
  | ((with_reducible refine' Evl.et_test ?ha); (case ha => walk_at "ev"))
  | ((with_reducible refine' Evl.et_B ?ha); (case ha => walk_at "ev"))
  | ((with_reducible refine' Evl.et_not ?ha); (case ha => walk_at "et"))
  | ((with_reducible refine' Evl.et_and ?ha ?hb); (case ha => walk_at "et"); (case hb => (intro _; walk_at "et")))
  | ((with_reducible refine' Evl.et_or ?ha ?hb); (case ha => walk_at "et"); (case hb => (intro _; walk_at "et"))))
local macro_rules | `(tactic| walk_at "eu") => `(tactic| first
  | ((with_reducible refine' Evl.eu_tup ?ha ?hb); (case ha => walk_at "ea"); (case hb => first | decide | exact Nat.le_of_ble_eq_true rfl | simp)))

/-! ### dicts by ints, == of lists, comprehensions by what they give -/
namespace Wm
open PySem PySem.Spec PyProof.Rows L2 Evl
section
variable {K : Kf} {σ : L2.St} {H H' : Hp} {ta tb te tl tx td ty tv : TE} {t u : TT} {x y z v : V} {r : R2} {a d : Addr} {xs ys : List V} {D : Ends} {tz : TS}
theorem ev_dnotin {k : Int} {kvs : List (Key × V)} (ha : Ev ty σ H (.int k)) (hb : Ev td σ H (.ref d)) (hd : H d = some (.dK kvs)) : Ev (tDNotIn ty td) σ H (.bl (!(valV kvs (Sum.inl k : Key)).isSome)) := fun H1 e Q q =>
  ha H1 e _ fun H2 e2 => hb H2 (e.trans e2) _ fun H3 e3 => ⟨d, _, rfl, DGet.k (k := Sum.inl k) (((e.trans e2).trans e3) d _ hd), q H3 (e2.trans e3)⟩
theorem ev_din {k : Int} {kvs : List (Key × V)} (ha : Ev ty σ H (.int k)) (hb : Ev td σ H (.ref d)) (hd : H d = some (.dK kvs)) : Ev (tDIn ty td) σ H (.bl (valV kvs (Sum.inl k : Key)).isSome) := fun H1 e Q q =>
  ha H1 e _ fun H2 e2 => hb H2 (e.trans e2) _ fun H3 e3 => ⟨d, _, rfl, DGet.k (k := Sum.inl k) (((e.trans e2).trans e3) d _ hd), q H3 (e2.trans e3)⟩
theorem s_dput {k : Int} {kvs : List (Key × V)} (hv : Ev tv σ H v) (ho : Ev td σ H (.ref d)) (hi : Ev ty σ H (.int k)) (hd : H d = some (.dK kvs)) (hz : kvs.length < 100000) (q : ∀ H1, Ex H H1 → D.nx σ (upd H1 d (.dK (putK kvs (Sum.inl k) v)))) : sDPut td ty tv D σ H :=
  hv H (Ex.refl H) _ fun H1 e1 => ho H1 e1 _ fun H2 e2 => hi H2 (e1.trans e2) _ fun H3 e3 =>
    ⟨d, _, rfl, DPut.k (k := Sum.inl k) (((e1.trans e2).trans e3) d _ hd) (sz_lt hz), q H3 ((e1.trans e2).trans e3)⟩
theorem q_dput {k : Int} {kvs : List (Key × V)} (hv : Ev tv σ H v) (ho : Ev td σ H (.ref d)) (hi : Ev ty σ H (.int k)) (hd : H d = some (.dK kvs)) (hz : kvs.length < 100000) (q : ∀ H1, Ex H H1 → tz D σ (upd H1 d (.dK (putK kvs (Sum.inl k) v)))) : tSeq (sDPut td ty tv) tz D σ H :=
  s_dput (D := { D with nx := tz D }) hv ho hi hd hz q
/-- x = {} -/
theorem q_dnew {i : Nat} (q : ∀ d, H d = none → tz D (σ.set i (some (.ref d))) (upd H d (.dK []))) : tSeq (tAsg tDNewK (gName i)) tz D σ H := fun d hd => q d hd
/-! == -/
def fl0 : V → Bool
  | .non => true
  | .int _ => true
  | .str _ => true
  | _ => false
theorem eqv_fl0 {x y : V} (hx : fl0 x = true) (hy : fl0 y = true) : PyData.eqv (vD x) (vD y) = decide (x = y) := by
  cases x with
  | non => cases y with
    | non => simp [vD, PyData.eqv]
    | int j => simp [vD, PyData.eqv]
    | str s => simp [vD, PyData.eqv]
    | _ => exact Bool.noConfusion hy
  | int i => cases y with
    | non => simp [vD, PyData.eqv]
    | int j => by_cases e : i = j <;> simp [vD, PyData.eqv, e]
    | str s => simp [vD, PyData.eqv]
    | _ => exact Bool.noConfusion hy
  | str s => cases y with
    | non => simp [vD, PyData.eqv]
    | int j => simp [vD, PyData.eqv]
    | str u => by_cases e : s = u <;> simp [vD, PyData.eqv, e]
    | _ => exact Bool.noConfusion hy
  | _ => exact Bool.noConfusion hx
theorem eqvAll_fl0 : ∀ {xs ys : List V}, xs.all fl0 = true → ys.all fl0 = true → PyData.eqvAll (xs.map vD) (ys.map vD) = decide (xs = ys)
  | [], [], _, _ => by simp [PyData.eqvAll]
  | [], _ :: _, _, _ => by simp [PyData.eqvAll]
  | _ :: _, [], _, _ => by simp [PyData.eqvAll]
  | x :: xs, y :: ys, h, g => by
    rw [List.all_cons, Bool.and_eq_true] at h g
    show (PyData.eqv (vD x) (vD y) && PyData.eqvAll (xs.map vD) (ys.map vD)) = _
    rw [eqv_fl0 h.1 g.1, eqvAll_fl0 h.2 g.2]
    by_cases e : x = y <;> by_cases e2 : xs = ys <;> simp [e, e2]
theorem fl0_flat1 {x : V} (h : fl0 x = true) : flat1 x = true := by
  cases x <;> first | rfl | exact Bool.noConfusion h
theorem all_flat1 {xs : List V} (h : xs.all fl0 = true) : xs.all flat1 = true := List.all_eq_true.mpr fun x hx => fl0_flat1 (List.all_eq_true.mp h x hx)
def fl2 : V → Bool
  | .non => true
  | .bl _ => true
  | .int _ => true
  | _ => false
theorem canLayAll_fl2 : ∀ {xs : List V}, xs.all fl2 = true → PyData.canLayAll0 (xs.map vD) = true
  | [], _ => rfl
  | x :: xs, h => by
    rw [List.all_cons, Bool.and_eq_true] at h
    show (PyData.canLay0 (vD x) && PyData.canLayAll0 (xs.map vD)) = true
    rw [canLayAll_fl2 h.2, Bool.and_true]
    cases x <;> first | rfl | exact Bool.noConfusion h.1
theorem depthAll_fl2 : ∀ {xs : List V}, xs.all fl2 = true → PyData.depthAll (xs.map vD) ≤ 1
  | [], _ => by simp [PyData.depthAll]
  | x :: xs, h => by
    rw [List.all_cons, Bool.and_eq_true] at h
    have ih := depthAll_fl2 h.2
    have h1 : PyData.depth (vD x) ≤ 1 := by
      cases x <;> first | (simp [vD, PyData.depth]; done) | exact Bool.noConfusion h.1
    simp only [List.map_cons, PyData.depthAll]
    omega
theorem shaped_list {xs : List V} (h : xs.all fl2 = true) : SeqAt.shaped (.list (xs.map vD)) = true := by
  unfold SeqAt.shaped
  rw [Bool.and_eq_true, decide_eq_true_eq]
  refine ⟨canLayAll_fl2 h, ?_⟩
  have h1 := depthAll_fl2 h
  simp only [PyData.depth]
  omega
/-- None, ints -/
def fl3 : V → Bool
  | .non => true
  | .int _ => true
  | _ => false
theorem fl3_0 {xs : List V} (h : xs.all fl3 = true) : xs.all fl0 = true := List.all_eq_true.mpr fun x hx => by
  have q := List.all_eq_true.mp h x hx
  cases x <;> first | rfl | exact Bool.noConfusion q
theorem fl3_2 {xs : List V} (h : xs.all fl3 = true) : xs.all fl2 = true := List.all_eq_true.mpr fun x hx => by
  have q := List.all_eq_true.mp h x hx
  cases x <;> first | rfl | exact Bool.noConfusion q
theorem rv_eqL {p q : Addr} (hp : SqL K H p xs) (hq : SqL K H q ys) (fx : xs.all fl3 = true) (fy : ys.all fl3 = true) : RV (rEqD K) (.ref p) (.ref q) H (.bl (decide (xs = ys))) := fun H1 e Q k =>
  ⟨_, _, .lst (ex_l e hp) (dpAll_flat (all_flat1 (fl3_0 fx))), .lst (ex_l e hq) (dpAll_flat (all_flat1 (fl3_0 fy))), shaped_list (fl3_2 fx), shaped_list (fl3_2 fy), by
    rw [show PyData.eqv (.list (xs.map vD)) (.list (ys.map vD)) = decide (xs = ys) by rw [PyData.eqv]; exact eqvAll_fl0 (fl3_0 fx) (fl3_0 fy)]
    exact k H1 (Ex.refl H1)⟩
theorem rv_neL {p q : Addr} (hp : SqL K H p xs) (hq : SqL K H q ys) (fx : xs.all fl3 = true) (fy : ys.all fl3 = true) : RV (rNeD K) (.ref p) (.ref q) H (.bl (!decide (xs = ys))) := fun H1 e Q k =>
  ⟨_, _, .lst (ex_l e hp) (dpAll_flat (all_flat1 (fl3_0 fx))), .lst (ex_l e hq) (dpAll_flat (all_flat1 (fl3_0 fy))), shaped_list (fl3_2 fx), shaped_list (fl3_2 fy), by
    rw [show PyData.eqv (.list (xs.map vD)) (.list (ys.map vD)) = decide (xs = ys) by rw [PyData.eqv]; exact eqvAll_fl0 (fl3_0 fx) (fl3_0 fy)]
    exact k H1 (Ex.refl H1)⟩
theorem ev_eqL {p q : Addr} (ha : Ev ta σ H (.ref p)) (hb : Ev tb σ H (.ref q)) (hp : SqL K H p xs) (hq : SqL K H q ys) (fx : xs.all fl3 = true) (fy : ys.all fl3 = true) : Ev (tOp (rEqD K) ta tb) σ H (.bl (decide (xs = ys))) := ev_op ha hb (rv_eqL hp hq fx fy)
theorem ev_neL {p q : Addr} (ha : Ev ta σ H (.ref p)) (hb : Ev tb σ H (.ref q)) (hp : SqL K H p xs) (hq : SqL K H q ys) (fx : xs.all fl3 = true) (fy : ys.all fl3 = true) : Ev (tOp (rNeD K) ta tb) σ H (.bl (!decide (xs = ys))) := ev_op ha hb (rv_neL hp hq fx fy)
/-- against a list that is made on the way -/
theorem ev_eqLN {p : Addr} (ha : Ev ta σ H (.ref p)) (hb : EvL tb σ H ys) (hp : SqL K H p xs) (fx : xs.all fl3 = true) (fy : ys.all fl3 = true) : Ev (tOp (rEqD K) ta tb) σ H (.bl (decide (xs = ys))) :=
  ev_opL ha hb fun _ _ h e => rv_eqL (ex_l e hp) (sq_of h) fx fy
theorem ev_neLN {p : Addr} (ha : Ev ta σ H (.ref p)) (hb : EvL tb σ H ys) (hp : SqL K H p xs) (fx : xs.all fl3 = true) (fy : ys.all fl3 = true) : Ev (tOp (rNeD K) ta tb) σ H (.bl (!decide (xs = ys))) :=
  ev_opL ha hb fun _ _ h e => rv_neL (ex_l e hp) (sq_of h) fx fy
theorem ev_neNN (ha : EvL ta σ H xs) (hb : EvL tb σ H ys) (fx : xs.all fl3 = true) (fy : ys.all fl3 = true) : Ev (tOp (rNeD K) ta tb) σ H (.bl (!decide (xs = ys))) :=
  ev_opLL ha hb fun _ _ _ h g _ => rv_neL (sq_of h) (sq_of g) fx fy
theorem ev_eqNL {q : Addr} (ha : EvL ta σ H xs) (hb : Ev tb σ H (.ref q)) (hq : SqL K H q ys) (fx : xs.all fl3 = true) (fy : ys.all fl3 = true) : Ev (tOp (rEqD K) ta tb) σ H (.bl (decide (xs = ys))) :=
  ev_opL1 ha (fun _ e => hb.mono e) fun _ _ h e => rv_eqL (sq_of h) (ex_l e hq) fx fy
theorem ev_neNL {q : Addr} (ha : EvL ta σ H xs) (hb : Ev tb σ H (.ref q)) (hq : SqL K H q ys) (fx : xs.all fl3 = true) (fy : ys.all fl3 = true) : Ev (tOp (rNeD K) ta tb) σ H (.bl (!decide (xs = ys))) :=
  ev_opL1 ha (fun _ e => hb.mono e) fun _ _ h e => rv_neL (sq_of h) (ex_l e hq) fx fy
/-! comprehensions -/
theorem el_lcR2 {ta : TA} {j : Nat} {vs : List Nat} {lo n : Int} (f : Nat → Bool) (g : Nat → V) (h : EvA ta σ H [.int lo, .int n]) (hn : 0 ≤ lo ∧ lo ≤ 40000 ∧ -40000 ≤ n ∧ n ≤ 40000) (hw : ∀ x, wipe ((wipe σ vs).set j (some x)) vs = wipe σ vs)
    (ht : ∀ (i : Nat) H1, Ex H H1 → lo + (i : Int) < n → EvT t ((wipe σ vs).set j (some (.int (lo + (i : Int))))) H1 (f i)) (he : ∀ (i : Nat) H1, Ex H H1 → lo + (i : Int) < n → f i = true → Ev te ((wipe σ vs).set j (some (.int (lo + (i : Int))))) H1 (g i)) :
    EvL (tLc (iRng2 ta) (gName j) t te vs) σ H (given (n - lo).toNat f g) := fun H0 e Q q => h H0 e _ fun H1 e1 => ⟨lo, n, rfl, ⟨by omega, by omega, by omega, by omega⟩, fun Dl hD =>
  lc_range (lo := lo) (n := (n - lo).toNat) (Cw H1 f g Dl) ⟨hD, Ex.new hD, upd_same⟩ (fun i H' hi p => ⟨hw _, cw_turn p (by omega) (ht i H1 (e.trans e1) (by omega)) (fun hf => he i H1 (e.trans e1) (by omega) hf)⟩) (fun H' p => q Dl H' (fresh_back e1 p.1) (e1.trans p.2.1) p.2.2)⟩
theorem given_list {p : V → Bool} {g : V → V} : ∀ xs : List V, given xs.length (fun i => p (xs.getD i .non)) (fun i => g (xs.getD i .non)) = (xs.filter p).map g := by
  intro xs
  have key : ∀ n, n ≤ xs.length → given n (fun i => p (xs.getD i .non)) (fun i => g (xs.getD i .non)) = ((xs.take n).filter p).map g := by
    intro n
    induction n with
    | zero => intro _; rfl
    | succ n ih =>
      intro hn
      have hlt : n < xs.length := hn
      have e : xs.take (n + 1) = xs.take n ++ [xs.getD n .non] := by
        rw [List.take_add_one, List.getElem?_eq_getElem hlt, List.getD_eq_getElem?_getD, List.getElem?_eq_getElem hlt]
        rfl
      rw [e, List.filter_append, List.map_append]
      cases hf : p (xs.getD n .non) with
      | true =>
        rw [given_yes hf, ih (Nat.le_of_lt hlt), List.filter_cons, if_pos hf]
        rfl
      | false =>
        rw [given_no hf, ih (Nat.le_of_lt hlt), List.filter_cons, if_neg (by rw [hf]; decide)]
        rw [List.filter_nil, List.map_nil, List.append_nil]
  rw [key xs.length (Nat.le_refl _), List.take_length]
theorem getD_of {xs : List V} {i : Nat} (h : xs[i]? = some x) : xs.getD i .non = x := by rw [List.getD_eq_getElem?_getD, h]; rfl
theorem el_lcX {vs : List Nat} {j : Nat} (p : V → Bool) (g : V → V) (h : Ev tl σ H (.ref a)) (hx : SqL K H a xs) (hz : xs.length ≤ 40000) (hw : ∀ x, wipe ((wipe σ vs).set j (some x)) vs = wipe σ vs)
    (ht : ∀ x H1, Ex H H1 → x ∈ xs → EvT t ((wipe σ vs).set j (some x)) H1 (p x)) (he : ∀ x H1, Ex H H1 → x ∈ xs → p x = true → Ev te ((wipe σ vs).set j (some x)) H1 (g x)) :
    EvL (tLc (iList K tl) (gName j) t te vs) σ H ((xs.filter p).map g) := by
  rw [← given_list]
  refine el_lcL _ _ h hx hz hw (fun i x H1 e hi => ?_) (fun i x H1 e hi hp => ?_)
  · rw [getD_of hi]
    exact ht x H1 e (List.mem_of_getElem? hi)
  · rw [getD_of hi] at hp ⊢
    exact he x H1 e (List.mem_of_getElem? hi) hp
theorem el_lcXN {vs : List Nat} {j : Nat} (p : V → Bool) (g : V → V) (h : EvL tl σ H xs) (hz : xs.length ≤ 40000) (hw : ∀ x, wipe ((wipe σ vs).set j (some x)) vs = wipe σ vs)
    (ht : ∀ x H1, Ex H H1 → x ∈ xs → EvT t ((wipe σ vs).set j (some x)) H1 (p x)) (he : ∀ x H1, Ex H H1 → x ∈ xs → p x = true → Ev te ((wipe σ vs).set j (some x)) H1 (g x)) :
    EvL (tLc (iList K tl) (gName j) t te vs) σ H ((xs.filter p).map g) := by
  rw [← given_list]
  refine el_lcNL _ _ h hz hw (fun i x H1 e hi => ?_) (fun i x H1 e hi hp => ?_)
  · rw [getD_of hi]
    exact ht x H1 e (List.mem_of_getElem? hi)
  · rw [getD_of hi] at hp ⊢
    exact he x H1 e (List.mem_of_getElem? hi) hp
theorem et_yes : EvT tYes σ H true := fun H1 _ _ q => q H1 (Ex.refl H1)
theorem given_all {n : Nat} {f : Nat → Bool} {g : Nat → V} (h : ∀ i, f i = true) : given n f g = (List.range n).map g := by
  unfold given
  rw [List.filter_eq_self.mpr fun i _ => h i]
end
/-- lists of naturals as Python's -/
def vn (ws : List Nat) : List V := ws.map fun (w : Nat) => V.int (w : Int)
theorem vn_len (ws : List Nat) : (vn ws).length = ws.length := List.length_map ..
theorem vn_ints (ws : List Nat) : vn ws = (ws.map Int.ofNat).map V.int := by
  unfold vn
  rw [List.map_map]
  rfl
theorem vn_at {ws : List Nat} {i : Nat} {x : V} (h : (vn ws)[i]? = some x) : ∃ w : Nat, x = .int (w : Int) ∧ ws[i]? = some w ∧ i < ws.length ∧ w ∈ ws := by
  unfold vn at h
  rw [List.getElem?_map] at h
  cases e : ws[i]? with
  | none =>
    rw [e] at h
    cases h
  | some w =>
    rw [e] at h
    obtain ⟨hi, _⟩ := List.getElem?_eq_some_iff.mp e
    exact ⟨w, (Option.some.inj h).symm, rfl, hi, List.mem_of_getElem? e⟩
theorem vn_get {ws : List Nat} {i w : Nat} (h : ws[i]? = some w) : (vn ws)[i]? = some (.int (w : Int)) := by
  unfold vn
  rw [List.getElem?_map, h]
  rfl
theorem vn_fl3 (ws : List Nat) : (vn ws).all fl3 = true := by
  unfold vn
  rw [List.all_map, List.all_eq_true]
  intro z _
  rfl
theorem vn_snoc (ws : List Nat) (w : Nat) : vn (ws ++ [w]) = vn ws ++ [.int (w : Int)] := by unfold vn; rw [List.map_append]; rfl
theorem vn_inj : ∀ {ws us : List Nat}, vn ws = vn us → ws = us
  | [], [], _ => rfl
  | [], _ :: _, h => by cases h
  | _ :: _, [], h => by cases h
  | w :: ws, u :: us, h => by
    have h1 := List.cons.inj h
    have e : (w : Int) = (u : Int) := V.int.inj h1.1
    rw [Int.ofNat.inj e, vn_inj h1.2]
theorem ints_fl3 (ns : List Int) : (ns.map V.int).all fl3 = true := by
  rw [List.all_map, List.all_eq_true]
  intro z _
  rfl
/-- a place or None -/
def vo : Option Nat → V
  | none => .non
  | some p => .int (p : Int)
def vos (l : List (Option Nat)) : List V := l.map vo
theorem vos_fl3 (l : List (Option Nat)) : (vos l).all fl3 = true := by
  unfold vos
  rw [List.all_map, List.all_eq_true]
  intro z _
  cases z <;> rfl
theorem vos_len (l : List (Option Nat)) : (vos l).length = l.length := List.length_map ..
theorem vos_snoc (l : List (Option Nat)) (o : Option Nat) : vos (l ++ [o]) = vos l ++ [vo o] := by unfold vos; rw [List.map_append]; rfl
theorem vos_at {l : List (Option Nat)} {i : Nat} {x : V} (h : (vos l)[i]? = some x) : ∃ o, x = vo o ∧ l[i]? = some o ∧ i < l.length := by
  unfold vos at h
  rw [List.getElem?_map] at h
  cases e : l[i]? with
  | none =>
    rw [e] at h
    cases h
  | some w =>
    rw [e] at h
    obtain ⟨hi, _⟩ := List.getElem?_eq_some_iff.mp e
    exact ⟨w, (Option.some.inj h).symm, rfl, hi⟩
theorem vo_inj {a b : Option Nat} (h : vo a = vo b) : a = b := by
  cases a with
  | none => cases b with
    | none => rfl
    | some q => cases h
  | some p => cases b with
    | none => cases h
    | some q => rw [Int.ofNat.inj (V.int.inj h)]
theorem vos_inj : ∀ {l m : List (Option Nat)}, vos l = vos m → l = m
  | [], [], _ => rfl
  | [], _ :: _, h => by cases h
  | _ :: _, [], h => by cases h
  | w :: ws, u :: us, h => by
    have h1 := List.cons.inj h
    rw [vo_inj h1.1, vos_inj h1.2]
theorem vos_some (ws : List Nat) : vos (ws.map some) = vn ws := by
  unfold vos vn
  rw [List.map_map]
  rfl
theorem take_succ_of {α : Type} {l : List α} {i : Nat} {x : α} (h : l[i]? = some x) : l.take (i + 1) = l.take i ++ [x] := by
  rw [List.take_add_one, h]
  rfl
end Wm

/-! ### conditional stores, pairs -/
namespace Wm
open PySem PySem.Spec PyProof.Rows L2 Evl
section
variable {K : Kf} {σ : L2.St} {H H' : Hp} {ta tb te tl tx : TE} {t u : TT} {x y z v : V} {D : Ends} {tz : TS}
/-- if c: x = e, told by a property of what x holds behind it -/
theorem q_ifP {b : Bool} {i : Nat} (P : V → Prop) (h : EvT t σ H b) (h1 : b = true → ∃ v, Ev te σ H v ∧ P v) (h2 : b = false → ∃ v, σ.set i (some v) = σ ∧ P v) (k : ∀ v H1, P v → Ex H H1 → tz D (σ.set i (some v)) H1) : tSeq (tIfS t (tAsg te (gName i)) tNext) tz D σ H :=
  q_when h (fun hb H1 e1 => by
    obtain ⟨v, hv, pv⟩ := h1 hb
    exact s_asg (D := { D with nx := tz D }) (hv.mono e1) fun H2 e2 => k v H2 pv (e1.trans e2)) (fun hb H1 e1 => by
    obtain ⟨v, hv, pv⟩ := h2 hb
    have g := k v H1 pv e1
    rw [hv] at g
    exact g)
/-- a, b = a pair that is made on the way -/
def EvPair (te : TE) (σ : L2.St) (H : Hp) (P : V → V → Hp → Prop) : Prop := ∀ H1, Ex H H1 → ∀ Q : VK, (∀ p x y H2, Ex H1 H2 → H2 p = some (.tup [x, y]) → P x y H2 → Q (.ref p) H2) → te σ H1 Q
theorem q_asg2 {i j : Nat} {P : V → V → Hp → Prop} (h : EvPair te σ H P) (k : ∀ x y H1, Ex H H1 → P x y H1 → tz D ((σ.set i (some x)).set j (some y)) H1) : tSeq (tAsg te (gTup K 2 (gCons (gName i) (gCons (gName j) gNil)))) tz D σ H :=
  h H (Ex.refl H) _ fun p x y H1 e hp hP => ⟨p, [x, y], rfl, st_of hp, rfl, x, [y], rfl, y, [], rfl, rfl, k x y H1 e hP⟩
theorem ep_call {sp : Sp} {E : XK} {ta : TA} {vs : List V} {P : V → V → Hp → Prop} (h : EvA ta σ H vs) (hs : ∀ H1, Ex H H1 → ∀ Q : VK, (∀ p x y H2, Ex H1 H2 → H2 p = some (.tup [x, y]) → P x y H2 → Q (.ref p) H2) → ∀ E : XK, sp vs H1 Q E) : EvPair (tCall sp [] E ta) σ H P := fun H1 e Q q =>
  h H1 e _ fun H2 e2 => by
    rw [List.append_nil]
    exact hs H2 (e.trans e2) Q (fun p x y H3 e3 hp hP => q p x y H3 (e2.trans e3) hp hP) E
theorem mod_nat (c : Int) {m : Int} {n : Nat} (h : 0 < m) (hm : m ≤ n) : ∃ w : Nat, c % m = (w : Int) ∧ w < n := by
  have h1 := Int.emod_nonneg c (show m ≠ 0 by omega)
  have h2 := Int.emod_lt_of_pos c h
  exact ⟨(c % m).toNat, by omega, by omega⟩
theorem tuple_ret {xs : List V} {Q : VK} (h : EvU te σ H xs) (k : ∀ p H1, H p = none → Ex H H1 → H1 p = some (.tup xs) → Q (.ref p) H1) : tRet te { nx := D.nx, rt := Q } σ H := s_retU (D := { nx := D.nx, rt := Q }) h k
end
end Wm

/-! ### lists of lists -/
namespace Wm
open PySem PySem.Spec PyProof.Rows L2 Evl
def MAt (mk : List V → HO) (H : Hp) (ps : List Addr) (rs : List (List V)) : Prop := Paired (fun p r => H p = some (mk r)) ps rs
abbrev LsAt : Hp → List Addr → List (List V) → Prop := MAt HO.lst
theorem MAt.ex {mk : List V → HO} {H H' : Hp} (e : Ex H H') : ∀ {ps : List Addr} {rs : List (List V)}, MAt mk H ps rs → MAt mk H' ps rs
  | _, _, .nil => .nil
  | _, _, .cons h t => .cons (e _ _ h) (MAt.ex e t)
theorem MAt.app {mk : List V → HO} {H : Hp} : ∀ {ps qs : List Addr} {rs ts : List (List V)}, MAt mk H ps rs → MAt mk H qs ts → MAt mk H (ps ++ qs) (rs ++ ts)
  | _, _, _, _, .nil, h => h
  | _, _, _, _, .cons h t, g => .cons h (MAt.app t g)
theorem MAt.len {mk : List V → HO} {H : Hp} {ps : List Addr} {rs : List (List V)} (h : MAt mk H ps rs) : ps.length = rs.length := Paired.length h
theorem MAt.get {mk : List V → HO} {H : Hp} : ∀ {ps : List Addr} {rs : List (List V)} {i : Nat} {p : Addr}, MAt mk H ps rs → ps[i]? = some p → ∃ r, rs[i]? = some r ∧ H p = some (mk r)
  | _, _, _, _, .nil, h => by cases h
  | _, _, 0, _, .cons h t, e => by
    cases e
    exact ⟨_, rfl, h⟩
  | _, _, i + 1, _, .cons _ t, e => MAt.get (i := i) t e
/-- a new list of new objects; of new lists -/
def EvM (mk : List V → HO) (te : TE) (σ : L2.St) (H : Hp) (rs : List (List V)) : Prop := ∀ H1, Ex H H1 → ∀ Q : VK, (∀ p ps H2, H1 p = none → Ex H1 H2 → H2 p = some (.lst (ps.map V.ref)) → MAt mk H2 ps rs → Q (.ref p) H2) → te σ H1 Q
def EvX (mk : List V → HO) (te : TE) (σ : L2.St) (H : Hp) (xs : List V) : Prop := ∀ H1, Ex H H1 → ∀ Q : VK, (∀ p H2, H1 p = none → Ex H1 H2 → H2 p = some (mk xs) → Q (.ref p) H2) → te σ H1 Q
abbrev EvR := EvM HO.lst
section
variable {K : Kf} {σ : L2.St} {H H' : Hp} {ta tb te tl tx : TE} {t u : TT} {x y z v : V}
theorem er_lcR1 {mk : List V → HO} {ta : TA} {j : Nat} {vs : List Nat} {n : Int} (g : Nat → List V) (h : EvA ta σ H [.int n]) (hn : 0 ≤ n ∧ n ≤ 40000) (hw : ∀ x, wipe ((wipe σ vs).set j (some x)) vs = wipe σ vs)
    (he : ∀ (i : Nat) H1, Ex H H1 → (i : Int) < n → EvX mk te ((wipe σ vs).set j (some (.int (i : Int)))) H1 (g i)) : EvM mk (tLc (iRng1 ta) (gName j) tYes te vs) σ H ((List.range n.toNat).map g) := fun H0 e Q q => h H0 e _ fun H1 e1 => ⟨n, rfl, by omega, by omega, fun Dl hD =>
  lc_range (lo := 0) (n := n.toNat) (fun i H' => Ex H1 H' ∧ ∃ ps : List Addr, H' Dl = some (.lst (ps.map V.ref)) ∧ MAt mk H' ps ((List.range i).map g) ∧ Dl ∉ ps) ⟨Ex.new hD, [], upd_same, .nil, List.not_mem_nil⟩
    (fun i H' hi ⟨eH, ps, hl, hp, hn2⟩ => by
      have e0 : (0 : Int) + (i : Int) = (i : Int) := Int.zero_add _
      refine ⟨hw _, ?_⟩
      show te _ H' _
      have q2 := he i H' ((e.trans e1).trans eH) (by omega)
      rw [← e0] at q2
      refine q2 H' (Ex.refl _) _ fun p H2 np e2 h2 => ?_
      have hl2 := e2 Dl _ hl
      have npD : p ≠ Dl := fun z => by
        rw [z] at np
        rw [np] at hl
        cases hl
      refine ⟨_, hl2, ?_, (eH.trans e2).mut hD, ps ++ [p], ?_, ?_, ?_⟩
      · have := hp.len
        rw [List.length_map, List.length_range] at this
        rw [List.length_map, this]
        exact sz_lt (by omega)
      · rw [upd_same, List.map_append]
        rfl
      · rw [List.range_succ, List.map_append]
        have k1 : ∀ {qs : List Addr} {rs : List (List V)}, Dl ∉ qs → MAt mk H2 qs rs → MAt mk (upd H2 Dl (.lst (ps.map V.ref ++ [.ref p]))) qs rs := by
          intro qs rs hd h
          induction h with
          | nil => exact .nil
          | cons a b ih =>
            rw [List.mem_cons, not_or] at hd
            exact .cons (by rw [upd_ne (Ne.symm hd.1)]; exact a) (ih hd.2)
        exact (k1 hn2 (hp.ex e2)).app (.cons (by rw [upd_ne npD]; exact h2) .nil)
      · rw [List.mem_append, List.mem_singleton, not_or]
        exact ⟨hn2, Ne.symm npD⟩)
    (fun H' ⟨eH, ps, hl, hp, _⟩ => q Dl ps H' (fresh_back e1 hD) (e1.trans eH) hl hp)⟩
theorem er_cat {p : Addr} {ps : List Addr} {rs ts : List (List V)} (ha : Ev ta σ H (.ref p)) (hp : H p = some (.lst (ps.map V.ref))) (hl : LsAt H ps rs) (hb : EvR tb σ H ts) (hz : rs.length + ts.length ≤ 100000) : EvR (tOp rCat ta tb) σ H (rs ++ ts) := fun H1 e Q q =>
  ha H1 e _ fun H2 e2 => hb H2 (e.trans e2) _ fun b qs H3 _ e3 hb3 hq => rv_cat (((e.trans e2).trans e3) p _ hp) hb3 (by rw [List.length_map, List.length_map, hl.len, hq.len]; exact hz) fun l hl2 =>
    q l (ps ++ qs) _ (fresh_back (e2.trans e3) hl2) ((e2.trans e3).trans (Ex.new hl2)) (by rw [upd_same, List.map_append]) (((hl.ex ((e.trans e2).trans e3)).app hq).ex (Ex.new hl2))
theorem s_asgR {i : Nat} {rs : List (List V)} {D : Ends} (h : EvR te σ H rs) (k : ∀ p ps H1, H p = none → Ex H H1 → H1 p = some (.lst (ps.map V.ref)) → LsAt H1 ps rs → D.nx (σ.set i (some (.ref p))) H1) : tAsg te (gName i) D σ H := h H (Ex.refl H) _ fun p ps H1 hp e h1 h2 => k p ps H1 hp e h1 h2
theorem q_asgR {i : Nat} {rs : List (List V)} {D : Ends} {tz : TS} (h : EvR te σ H rs) (k : ∀ p ps H1, H p = none → Ex H H1 → H1 p = some (.lst (ps.map V.ref)) → LsAt H1 ps rs → tz D (σ.set i (some (.ref p))) H1) : tSeq (tAsg te (gName i)) tz D σ H := s_asgR (D := { D with nx := tz D }) h k
/-- [[]] -/
theorem er_nil1 : EvR (tLst (tCons (tLst tNil) tNil)) σ H [[]] := fun H1 e Q q => ⟨Nat.zero_le _, fun p hp => ⟨sz_of (show 1 ≤ 100000 by decide), fun l hl => by
  have npl : p ≠ l := fun z => by
    rw [z, upd_same] at hl
    cases hl
  refine q l [p] _ (fresh_back (Ex.new hp) hl) ((Ex.new hp).trans (Ex.new hl)) upd_same (.cons ?_ .nil)
  rw [upd_ne npl, upd_same]⟩⟩
/-- how many turns give -/
theorem given_count {α : Type} (f : α → Bool) (d : α) (g : Nat → V) (l : List α) : (given l.length (fun i => f (l.getD i d)) g).length = (l.filter f).length := by
  unfold given
  rw [List.length_map]
  have key : ∀ n, n ≤ l.length → ((List.range n).filter fun i => f (l.getD i d)).length = ((l.take n).filter f).length := by
    intro n
    induction n with
    | zero => intro _; rfl
    | succ n ih =>
      intro hn
      have hlt : n < l.length := hn
      have e : l.take (n + 1) = l.take n ++ [l.getD n d] := by
        rw [List.take_add_one, List.getElem?_eq_getElem hlt, List.getD_eq_getElem?_getD, List.getElem?_eq_getElem hlt]
        rfl
      rw [e, List.range_succ, List.filter_append, List.filter_append, List.length_append, List.length_append, ih (Nat.le_of_lt hlt)]
      congr 1
      cases hf : f (l.getD n d) <;> simp only [List.filter_cons, List.filter_nil, hf, if_true, Bool.false_eq_true, if_false, List.length_cons, List.length_nil]
  rw [key l.length (Nat.le_refl _), List.take_length]
end
theorem inV_vos (l : List (Option Nat)) : inV .non (vos l) = decide (none ∈ l) := by
  unfold inV vos
  rw [List.any_map, Bool.eq_iff_iff, List.any_eq_true, decide_eq_true_eq]
  constructor
  · rintro ⟨o, ho, e⟩
    cases o with
    | none => exact ho
    | some p => exact Bool.noConfusion e
  · intro h
    exact ⟨none, h, rfl⟩
theorem vos_flat (l : List (Option Nat)) : (vos l).all flatV = true := by
  unfold vos
  rw [List.all_map, List.all_eq_true]
  intro z _
  cases z <;> rfl
end Wm

/-! ### for x in reversed(range(n)); counts by comprehensions -/
namespace Wm
open PySem PySem.Spec PyProof.Rows L2 Evl
section
variable {K : Kf} {σ : L2.St} {H H' : Hp} {ta tb te tl tx : TE} {t u : TT} {x y z v : V} {D : Ends} {tz tu : TS}
theorem s_forRev {j n : Nat} (h : Ev te σ H (.int (n : Int))) (hn : n ≤ 100000) (Pv : Nat → L2.St → Hp → Prop) (h0 : ∀ H1, Ex H H1 → Pv 0 σ H1)
    (hs : ∀ (i p : Nat) σ' H', i + p + 1 = n → Pv i σ' H' → tu { D with nx := Pv (i + 1), ct := Pv (i + 1), bk := D.nx } (σ'.set j (some (.int (p : Int)))) H') (hd : ∀ σ' H', Pv n σ' H' → D.nx σ' H') : tFor (iRevR (tRg1 te)) (gName j) tu D σ H :=
  h H (Ex.refl H) _ fun H1 e => ⟨(n : Int), rfl, by decide, by decide, by omega, by omega, by
    have en : ((n : Int) - 0).toNat = n := by omega
    rw [en]
    exact for_rangeC Pv (h0 H1 e) (fun i σ' H' hi p => by
      have e0 : (0 : Int) + ((n : Nat) : Int) - 1 + (i : Nat) * (-1) = ((n - 1 - i : Nat) : Int) := by omega
      rw [e0]
      exact hs i (n - 1 - i) σ' H' (by omega) p) hd⟩
theorem q_forRev {j n : Nat} (h : Ev te σ H (.int (n : Int))) (hn : n ≤ 100000) (Pv : Nat → L2.St → Hp → Prop) (h0 : ∀ H1, Ex H H1 → Pv 0 σ H1)
    (hs : ∀ (i p : Nat) σ' H', i + p + 1 = n → Pv i σ' H' → tu { D with nx := Pv (i + 1), ct := Pv (i + 1), bk := tz D } (σ'.set j (some (.int (p : Int)))) H') (hd : ∀ σ' H', Pv n σ' H' → tz D σ' H') : tSeq (tFor (iRevR (tRg1 te)) (gName j) tu) tz D σ H :=
  s_forRev (D := { D with nx := tz D }) h hn Pv h0 hs hd
/-- len([w for w in ws if test]) -/
theorem ev_count {a : Addr} {ws : List Nat} {j : Nat} {vs : List Nat} (p : Nat → Bool) (h : Ev tl σ H (.ref a)) (hx : SqL K H a (vn ws)) (hz : ws.length ≤ 40000) (hw : ∀ x, wipe ((wipe σ vs).set j (some x)) vs = wipe σ vs)
    (hj : ∀ x : V, ((wipe σ vs).set j (some x))[j]? = some (some x)) (ht : ∀ (w : Nat) H1, Ex H H1 → w ∈ ws → EvT t ((wipe σ vs).set j (some (.int (w : Int)))) H1 (p w)) :
    Ev (tCB (rLenS K) (tCons (tLc (iList K tl) (gName j) t (tVar j) vs) tNil)) σ H (.int ((ws.countP p : Nat) : Int)) := by
  have q : V → Bool := fun v => match v with
    | .int i => p i.toNat
    | _ => false
  refine ev_is (ev_lenN (el_lcX (K := K) (xs := vn ws) (fun v => match v with | .int i => p i.toNat | _ => false) id h hx (by rw [vn_len]; exact hz) hw (fun x H1 e hm => ?_) (fun x H1 e hm _ => ev_var (hj x)))) ?_
  · unfold vn at hm
    obtain ⟨w, hw2, rfl⟩ := List.mem_map.mp hm
    exact ht w H1 e hw2
  · rw [List.length_map]
    refine congrArg (fun n : Nat => V.int (n : Int)) ?_
    unfold vn
    rw [List.filter_map, List.length_map, List.countP_eq_length_filter]
    rfl
end
end Wm

/-! ### lists of which only a property is told; sorted pairs -/
namespace Wm
open PySem PySem.Spec PyProof.Rows L2 Evl
def EvLP (te : TE) (σ : L2.St) (H : Hp) (P : List V → Prop) : Prop := ∀ H1, Ex H H1 → ∀ Q : VK, (∀ p xs H2, H1 p = none → Ex H1 H2 → H2 p = some (.lst xs) → P xs → Q (.ref p) H2) → te σ H1 Q
section
variable {X : Cx}
theorem cr_max2 (hc : X.calm = true) : CallR X (.builtin "max") rMax2 := call_max2 hc
def rMin2 : List V → Hp → VK → Prop := fun xs H Q => ∃ i j, xs = [.int i, .int j] ∧ Q (.int (if j < i then j else i)) H
theorem cr_min2 (hc : X.calm = true) : CallR X (.builtin "min") rMin2 := call_min2 hc
end
section
variable {K : Kf} {σ : L2.St} {H H' : Hp} {ta tb te tl tx : TE} {t u : TT} {x y z v : V} {D : Ends} {tz tu : TS}
theorem ev_min2 {i j : Int} (ha : Ev ta σ H (.int i)) (hb : Ev tb σ H (.int j)) : Ev (tCB rMin2 (tCons ta (tCons tb tNil))) σ H (.int (if j < i then j else i)) := fun H1 e Q q =>
  ha H1 e _ fun H2 e2 => hb H2 (e.trans e2) _ fun H3 e3 => ⟨i, j, rfl, q H3 (e2.trans e3)⟩
theorem s_asgLP {i : Nat} {P : List V → Prop} (h : EvLP te σ H P) (k : ∀ p xs H1, H p = none → Ex H H1 → H1 p = some (.lst xs) → P xs → D.nx (σ.set i (some (.ref p))) H1) : tAsg te (gName i) D σ H := h H (Ex.refl H) _ k
theorem q_asgLP {i : Nat} {P : List V → Prop} (h : EvLP te σ H P) (k : ∀ p xs H1, H p = none → Ex H H1 → H1 p = some (.lst xs) → P xs → tz D (σ.set i (some (.ref p))) H1) : tSeq (tAsg te (gName i)) tz D σ H := s_asgLP (D := { D with nx := tz D }) h k
theorem s_retLP {P : List V → Prop} (h : EvLP te σ H P) (k : ∀ p xs H1, H p = none → Ex H H1 → H1 p = some (.lst xs) → P xs → D.rt (.ref p) H1) : tRet te D σ H := h H (Ex.refl H) _ k
theorem lp_of {P : List V → Prop} {xs : List V} (h : EvL te σ H xs) (hp : P xs) : EvLP te σ H P := fun H1 e Q q => h H1 e Q fun p H2 np e2 h2 => q p xs H2 np e2 h2 hp
theorem lp_imp {P P' : List V → Prop} (h : EvLP te σ H P) (hp : ∀ xs, P xs → P' xs) : EvLP te σ H P' := fun H1 e Q q => h H1 e Q fun p xs H2 np e2 h2 h3 => q p xs H2 np e2 h2 (hp xs h3)
theorem lp_call {sp : Sp} {E : XK} {ta : TA} {vs : List V} {P : List V → Prop} (h : EvA ta σ H vs) (hs : ∀ H1, Ex H H1 → ∀ Q : VK, (∀ xs, P xs → RetL xs H1 Q) → ∀ E : XK, sp vs H1 Q E) : EvLP (tCall sp [] E ta) σ H P := fun H1 e Q q =>
  h H1 e _ fun H2 e2 => by
    rw [List.append_nil]
    exact hs H2 (e.trans e2) Q (fun xs hP p H3 hp e3 h3 => q p xs H3 (fresh_back e2 hp) (e2.trans e3) h3 hP) E
/-- a comprehension over such a list -/
theorem lp_lc {vs : List Nat} {j : Nat} {P : List V → Prop} (p : V → Bool) (g : V → V) (h : EvLP tl σ H P) (hz : ∀ xs, P xs → xs.length ≤ 40000) (hw : ∀ x, wipe ((wipe σ vs).set j (some x)) vs = wipe σ vs)
    (ht : ∀ xs x H1, P xs → Ex H H1 → x ∈ xs → EvT t ((wipe σ vs).set j (some x)) H1 (p x)) (he : ∀ xs x H1, P xs → Ex H H1 → x ∈ xs → p x = true → Ev te ((wipe σ vs).set j (some x)) H1 (g x)) :
    EvLP (tLc (iList K tl) (gName j) t te vs) σ H (fun ys => ∃ xs, P xs ∧ ys = (xs.filter p).map g) := fun H0 e Q q => h H0 e _ fun a xs H1 ha e1 hx hP => ⟨a, rfl, ⟨xs, sq_of hx⟩, fun Dl hD =>
  lc_list (xs := xs) (Cw H1 (fun i => p (xs.getD i .non)) (fun i => g (xs.getD i .non)) Dl) ⟨hD, Ex.new hD, upd_same⟩ (fun i H' _ pp => sq_of (pp.2.1 a _ hx)) (fun i x H' hi pp => ⟨hw x, cw_turn pp (by have := (List.getElem?_eq_some_iff.mp hi).1; have := hz xs hP; omega)
      (by rw [getD_of hi]; exact ht xs x H1 hP (e.trans e1) (List.mem_of_getElem? hi)) (fun hf => by rw [getD_of hi] at hf ⊢; exact he xs x H1 hP (e.trans e1) (List.mem_of_getElem? hi) hf)⟩)
    (fun H' pp => q Dl _ H' (fresh_back e1 pp.1) (e1.trans pp.2.1) pp.2.2 ⟨xs, hP, given_list xs⟩)⟩
/-- what stands at a reference to a pair of ints -/
def pairAt (H : Hp) : V → Int × Int
  | .ref p => match H p with
    | some (.tup [.int a, .int b]) => (a, b)
    | _ => (0, 0)
  | _ => (0, 0)
theorem pairAt_is {H : Hp} {p : Addr} {a b : Int} (h : H p = some (.tup [.int a, .int b])) : pairAt H (.ref p) = (a, b) := by
  simp only [pairAt, h]
/-- sorted([(f i, i) for ..]): references to the pairs, in some order -/
theorem sorted_pairs {ta : TE} {n : Nat} {f : Nat → Int} (h : EvM HO.tup ta σ H ((List.range n).map fun i => [V.int (f i), V.int (i : Int)])) :
    ∀ H1, Ex H H1 → ∀ Q : VK, (∀ p zs H2, H1 p = none → Ex H1 H2 → H2 p = some (.lst zs) → (∀ x ∈ zs, ∃ q i, x = .ref q ∧ i < n ∧ H2 q = some (.tup [.int (f i), .int (i : Int)])) → (zs.map fun x => (pairAt H2 x).2.toNat).Perm (List.range n) → Q (.ref p) H2) → tCB (rSortedPO K) (tCons ta tNil) σ H1 Q := fun H1 e Q q =>
  h H1 e _ fun p ps H2 np e2 hp hm => by
    have hmem : ∀ x ∈ ps.map V.ref, ∃ q i, x = .ref q ∧ i < n ∧ H2 q = some (.tup [.int (f i), .int (i : Int)]) := by
      intro x hx
      obtain ⟨q, hq, rfl⟩ := List.mem_map.mp hx
      obtain ⟨i, hi⟩ := List.mem_iff_getElem?.mp hq
      obtain ⟨r, hr, h3⟩ := hm.get hi
      rw [List.getElem?_map] at hr
      by_cases hin : i < n
      · rw [List.getElem?_range hin] at hr
        cases hr
        exact ⟨q, i, rfl, hin, h3⟩
      · rw [List.getElem?_eq_none (by rw [List.length_range]; omega)] at hr
        cases hr
    refine ⟨p, ps.map V.ref, pairAt H2, rfl, sq_of hp, fun x hx => ?_, fun ys l hs hb hl => ?_⟩
    · obtain ⟨q, i, rfl, hin, h3⟩ := hmem x hx
      exact ⟨q, rfl, by rw [pairAt_is h3]; exact h3⟩
    · refine q l ys _ (fresh_back e2 hl) (e2.trans (Ex.new hl)) upd_same (fun x hx => ?_) ?_
      · obtain ⟨q, i, rfl, hin, h3⟩ := hmem x (hb.perm.mem_iff.mp hx)
        exact ⟨q, i, rfl, hin, Ex.new hl _ _ h3⟩
      · have h1 : (ys.map fun x => (pairAt (upd H2 l (.lst ys)) x).2.toNat).Perm ((ps.map V.ref).map fun x => (pairAt (upd H2 l (.lst ys)) x).2.toNat) := hb.perm.map _
        have h2 : ((ps.map V.ref).map fun x => (pairAt (upd H2 l (.lst ys)) x).2.toNat) = List.range n := by
          refine List.ext_getElem? fun i => ?_
          rw [List.getElem?_map, List.getElem?_map]
          cases hpi : ps[i]? with
          | none =>
            have hl := hm.len
            rw [List.length_map, List.length_range] at hl
            rw [List.getElem?_eq_none_iff] at hpi
            rw [List.getElem?_eq_none (by rw [List.length_range]; omega)]
            rfl
          | some q =>
            obtain ⟨r, hr, h3⟩ := hm.get hpi
            rw [List.getElem?_map] at hr
            by_cases hin : i < n
            · rw [List.getElem?_range hin] at hr ⊢
              cases hr
              show some ((pairAt (upd H2 l (.lst ys)) (.ref q)).2.toNat) = some i
              rw [pairAt_is (Ex.new hl _ _ h3), Int.toNat_natCast]
            · rw [List.getElem?_eq_none (by rw [List.length_range]; omega)] at hr
              cases hr
        rw [h2] at h1
        exact h1
/-- x = e, of which P is told -/
theorem q_asgG {i : Nat} {P : V → Hp → Prop} (h : ∀ Q : VK, (∀ v H2, P v H2 → Q v H2) → te σ H Q) (k : ∀ v H2, P v H2 → tz D (σ.set i (some v)) H2) : tSeq (tAsg te (gName i)) tz D σ H := h _ k
theorem q_sorted_pairs {i n : Nat} {f : Nat → Int} {ta : TE} (h : EvM HO.tup ta σ H ((List.range n).map fun i => [V.int (f i), V.int (i : Int)]))
    (k : ∀ p zs H2, H p = none → Ex H H2 → H2 p = some (.lst zs) → (∀ x ∈ zs, ∃ q i, x = .ref q ∧ i < n ∧ H2 q = some (.tup [.int (f i), .int (i : Int)])) → (zs.map fun x => (pairAt H2 x).2.toNat).Perm (List.range n) → tz D (σ.set i (some (.ref p))) H2) :
    tSeq (tAsg (tCB (rSortedPO K) (tCons ta tNil)) (gName i)) tz D σ H := sorted_pairs h H (Ex.refl H) _ k
/-- [e for x, y in pairs] -/
theorem el_lcPairs {a : Addr} {zs : List V} {i j : Nat} {vs : List Nat} (g : V → V) (h : Ev tl σ H (.ref a)) (hx : SqL K H a zs) (hz : zs.length ≤ 40000) (hp : ∀ x ∈ zs, ∃ q u v, x = .ref q ∧ H q = some (.tup [.int u, .int v]))
    (hw : ∀ x y, wipe (((wipe σ vs).set i (some x)).set j (some y)) vs = wipe σ vs) (he : ∀ x H1, Ex H H1 → x ∈ zs → Ev te (((wipe σ vs).set i (some (.int (pairAt H x).1))).set j (some (.int (pairAt H x).2))) H1 (g x)) :
    EvL (tLc (iList K tl) (gTup K 2 (gCons (gName i) (gCons (gName j) gNil))) tYes te vs) σ H (zs.map g) := fun H0 e Q q => h H0 e _ fun H1 e1 => ⟨a, rfl, ⟨zs, ex_l (e.trans e1) hx⟩, fun Dl hD =>
  lc_list (xs := zs) (Cw H1 (fun _ => true) (fun i => g (zs.getD i .non)) Dl) ⟨hD, Ex.new hD, upd_same⟩ (fun i H' _ pp => ex_l ((e.trans e1).trans pp.2.1) hx) (fun n x H' hi pp => by
      have hm := List.mem_of_getElem? hi
      obtain ⟨q2, u, v, ex2, h2⟩ := hp x hm
      have hn := (List.getElem?_eq_some_iff.mp hi).1
      have eP : pairAt H x = (u, v) := by rw [ex2]; exact pairAt_is h2
      refine ⟨q2, _, ex2, st_of (((e.trans e1).trans pp.2.1) _ _ h2), rfl, .int u, [.int v], rfl, .int v, [], rfl, rfl, hw _ _, ?_⟩
      refine cw_turn pp (by omega) et_yes fun _ => ?_
      have q3 := he x H1 (e.trans e1) hm
      rw [eP] at q3
      rw [getD_of hi]
      exact q3)
    (fun H' pp => by
      have e3 : given zs.length (fun _ => true) (fun i => g (zs.getD i .non)) = zs.map g := by
        have := given_list (p := fun _ => true) (g := g) zs
        rw [this, List.filter_eq_self.mpr fun _ _ => rfl]
      have h3 := pp.2.2
      rw [e3] at h3
      exact q Dl H' (fresh_back e1 pp.1) (e1.trans pp.2.1) h3)⟩
end
end Wm

/-! ### exceptions: what is refused, the word that a suite tells of it -/
namespace Wm
open PySem PySem.Spec PyProof.Rows L2 Evl
/-- an own class of exceptions, as raise asks it -/
structure Exc (K : Kf) (mg : Mg) (c : Str) : Prop where
  g : mg c = some (.ref (He.ga K c))
  x : PySem.W.excIn K (He.ga K c) He.veBase "ValueError.__new__" = true
  k : PySem.W.keepIn K (.ref (He.ga K c)) = true
  b : PySem.W.subIn K (.ref (He.ga K c)) (.type "BaseException") = some true
  t : PySem.W.typeIn K (.ref (He.ga K c)) = some (.type "type")
theorem exc_of {K : Kf} {mg : Mg} {c : Str} (g : mg c = some (.ref (He.ga K c))) (h : (He.Fa.exc c).ok K = true) : Exc K mg c := by
  obtain ⟨h1, h2, h3, h4⟩ := He.exc_ok h
  exact ⟨g, h1, h2, h3, h4⟩
def classAt : Nat → Str
  | 0 => "NoQuay"
  | 1 => "NoRow"
  | 2 => "NoOutcome"
  | 3 => "NoTree"
  | 4 => "NoRank"
  | _ => "NoNote"
def wordAt : Nat → Str
  | 0 => "quay"
  | 1 => "row"
  | 2 => "outcome"
  | 3 => "tree"
  | 4 => "rank"
  | _ => "note"
/-- the class at D is the i-th one, and no other of them -/
structure IsWord (K : Kf) (D : Addr) (i : Nat) : Prop where
  c : ExcC K D
  kit : ∀ j, j < 6 → PySem.W.kitOne K (.ref D) (.ref (He.ga K (classAt j))) = some (decide (j = i))
  ve : PySem.W.kitOne K (.ref D) (.type "ValueError") = some true
  moor : PySem.W.exmOne K (.ref D) (.ref (He.ga K "MoorError")) = some true
def excCB (K : Kf) (D : Addr) : Bool :=
  decide (PySem.W.findIn K (.ref D) "__getattribute__" = some (some (.builtin "BaseException.__getattribute__"))) && (decide (PySem.W.findIn K (.ref D) "__getattr__" = some none) && (decide (PySem.W.subIn K (.ref D) (.type "BaseException") = some true) && (PySem.W.hasDictIn K D && (decide (PySem.W.findIn K (.ref D) "__class__" = some (some (.builtin "object.__class__"))) && (decide (PySem.W.specialIn K (.builtin "object.__class__") "__get__" = some (some (.builtin "getset_descriptor.__get__"))) && (decide (PySem.W.takesIn K (.builtin "object.__class__") = some true) && decide (PySem.W.mroIn K D (.type "object") = some true)))))))
theorem excCB_ok {K : Kf} {D : Addr} (h : excCB K D = true) : ExcC K D := by
  obtain ⟨h1, h⟩ := He.ba h
  obtain ⟨h2, h⟩ := He.ba h
  obtain ⟨h3, h⟩ := He.ba h
  obtain ⟨h4, h⟩ := He.ba h
  obtain ⟨h5, h⟩ := He.ba h
  obtain ⟨h6, h⟩ := He.ba h
  obtain ⟨h7, h8⟩ := He.ba h
  exact ⟨of_decide_eq_true h1, of_decide_eq_true h2, of_decide_eq_true h3, h4, of_decide_eq_true h5, of_decide_eq_true h6, of_decide_eq_true h7, of_decide_eq_true h8⟩
def isWordB (K : Kf) (i : Nat) : Bool :=
  excCB K (He.ga K (classAt i)) && ((List.range 6).all (fun j => decide (PySem.W.kitOne K (.ref (He.ga K (classAt i))) (.ref (He.ga K (classAt j))) = some (decide (j = i)))) && (decide (PySem.W.kitOne K (.ref (He.ga K (classAt i))) (.type "ValueError") = some true) && decide (PySem.W.exmOne K (.ref (He.ga K (classAt i))) (.ref (He.ga K "MoorError")) = some true)))
theorem isWord_ok {K : Kf} {i : Nat} (h : isWordB K i = true) : IsWord K (He.ga K (classAt i)) i := by
  obtain ⟨h1, h⟩ := He.ba h
  obtain ⟨h2, h⟩ := He.ba h
  obtain ⟨h3, h4⟩ := He.ba h
  exact ⟨excCB_ok h1, fun j hj => of_decide_eq_true (List.all_eq_true.mp h2 j (List.mem_range.mpr hj)), of_decide_eq_true h3, of_decide_eq_true h4⟩
def wordsB (K : Kf) : Bool := (List.range 6).all (fun i => isWordB K i && (He.Fa.exc (classAt i)).ok K)
structure Words (K : Kf) : Prop where
  w : ∀ i, i < 6 → IsWord K (He.ga K (classAt i)) i
  x : ∀ i, i < 6 → (He.Fa.exc (classAt i)).ok K = true
theorem words_ok {K : Kf} (h : wordsB K = true) : Words K :=
  ⟨fun i hi => isWord_ok (He.ba (List.all_eq_true.mp h i (List.mem_range.mpr hi))).1, fun i hi => (He.ba (List.all_eq_true.mp h i (List.mem_range.mpr hi))).2⟩
/-! a def that is called while the exception p is handled -/
structure FnP (P : Program) (w : World) (K : Kf) (mg : Mg) (base : Heap) (k : Nat) (f : Addr) (fd : FuncData) (ps : List Str) (p : Addr × Obj) (sp : Sp) : Prop where
  len : ∀ vs H Q E, sp vs H Q E → vs.length = ps.length
  run : ∀ (A : Around) (outer : List Env) (s : Shared) (H : Hp) (args : Args) (us : List Value) (vs : List V) (Q : VK) (E : XK), L2H.RoomH k A → L2H.PinOk outer H s p → Env0 P w K mg base A outer s H → BindsTo s fd args (ps.zip us) → Vals vs us → sp vs H Q E → codeAny (model P w) A (.call (.ref f) args) (CR CX0 outer P w H s Q E) s
structure OwnP (P : Program) (w : World) (K : Kf) (mg : Mg) (base : Heap) (k : Nat) (x : Str) (ps : List Str) (sp : Addr × Obj → Sp) : Prop where
  ex : ∃ (f : Addr) (fd : FuncData), (∀ p, FnP P w K mg base k f fd ps p (sp p)) ∧ mg x = some (.ref f) ∧ PySem.W.keepIn K (.ref f) = true ∧ Binds K fd ps []
section
variable {P : Program} {w : World} {K : Kf} {mg : Mg} {base : Heap}
theorem pinned_of {k : Nat} {f : Addr} {nm ql : Str} {prm : Arguments} {bd : List Stmt} {sc : Scope} {u1 u2 u3 u4 cv u5 o1 : Value} {n1 o2 : Option Addr} {sl : Array (Option Value)} {N ps : List Str} {p : Addr × Obj} {sp : Sp}
    (lk : K.lookup f = some ⟨o1, o2, .func (PySem.W.fnOf nm ql prm bd sc u1 u2 u3 u4 n1 cv u5), sl⟩) (hc : PySem.W.codeIn K cv ql = true) (S : FnScope N ps sc) (len : ∀ vs H Q E, sp vs H Q E → vs.length = ps.length)
    (body : ∀ (A : Around) (outer : List Env) (s : Shared) (H : Hp) (vs : List V) (Q : VK) (E : XK), L2H.RoomH k (A.deeper (envOfC ql sc s.heap.objs.size f cv)) → sp vs H Q E → ∃ t, PSs (L2H.cxH CX0 P w K mg base N ql sc f cv A outer s H E p) bd t ∧ t { nx := fun _ H' => Q .non H', rt := Q } (start N vs) H) :
    FnP P w K mg base (k + 1) f (PySem.W.fnOf nm ql prm bd sc u1 u2 u3 u4 n1 cv u5) ps p sp := by
  constructor
  · exact len
  intro A outer s H args us vs Q E room pin e0 bnd vals h
  have inH : K.In s.heap := e0.mod.kin.keeps fun b o z => (e0.bs b o z).1
  have lims : s.heap.NoLimit := e0.mod.nolimit.keeps fun b o z => (e0.bs b o z).1
  have kinds : ∀ y ∈ ps.zip us, sc.names.lookup y.1 = some .local ∨ (sc.names.lookup y.1 = some .cell ∧ ((cellsFrom (s.heap.objs.size + 1) sc.names []).lookup y.1).isSome = true) := by
    rintro ⟨n, v⟩ hy
    rcases S.par n (List.of_mem_zip hy).1 with q | q
    · exact Or.inl q
    · exact Or.inr ⟨q, PySem.W.cellsFrom_some _ _ _ (Or.inl q)⟩
  refine codeAny_call_function room.depth (inH _ _ lk) rfl S.co S.gen rfl (PySem.W.codeRec_of inH hc) (bnd _ _ _ _ (wpAny_newFunctionEnv_cells S.kind kinds fun env he s1 x => ?_))
  cases he
  refine ⟨lims.keeps x.toInCall.keep, codeAny_func ?_⟩
  obtain ⟨t, hd, hq⟩ := body A outer s H vs Q E (room.deeper _) h
  have I := L2H.inv_startH (CX := CX0) (P := P) (w := w) (mg := mg) (base := base) (E := E) (f := f) (cd := cv) S pin e0 (len _ _ _ _ h) vals x
  refine wpAny_mono (hd.run [] s1 _ H _ I hq) (fun fl s2 g => ?_) (fun _ _ g => g)
  cases fl with
  | ret u =>
    obtain ⟨v, σ2, H2, J, r2, q2⟩ := g
    exact ⟨v, H2, J.os, J.bare, J.base, J.hok, r2, q2⟩
  | next =>
    obtain ⟨σ2, H2, J, q2⟩ := g
    exact ⟨.non, H2, J.os, J.bare, J.base, J.hok, rfl, q2⟩
  | brk =>
    obtain ⟨_, _, _, q2⟩ := g
    exact q2.elim
  | cont =>
    obtain ⟨_, _, _, q2⟩ := g
    exact q2.elim
theorem Def.pinned {x : Str} {st : Stmt} {N ps : List Str} {k : Nat} {sp : Addr × Obj → Sp} (D : Def K mg x st) (S : FnScope N ps (defScope st)) (b : BindsWell x st ps) (len : ∀ p vs H Q E, sp p vs H Q E → vs.length = ps.length)
    (body : ∀ (p : Addr × Obj) (f : Addr) (cdv : Value) (A : Around) (outer : List Env) (s : Shared) (H : Hp) (vs : List V) (Q : VK) (E : XK), L2H.RoomH k (A.deeper (envOfC x (defScope st) s.heap.objs.size f cdv)) → sp p vs H Q E →
      ∃ t, PSs (L2H.cxH CX0 P w K mg base N x (defScope st) f cdv A outer s H E p) (defBody st) t ∧ t { nx := fun _ H' => Q .non H', rt := Q } (start N vs) H) : OwnP P w K mg base (k + 1) x ps sp := by
  obtain ⟨f, fd, F, m⟩ := D.ex
  have bn := F.bindsN b
  have kp := F.kp
  obtain ⟨oc, od, dV, kV, doc, pm, an, cdv, ct, osl, rfl, lk, hcd, _, _⟩ := F.ex
  exact ⟨f, _, fun p => pinned_of lk hcd S (len p) fun A outer s H vs Q E hr h => body p f cdv A outer s H vs Q E hr h, m, kp, bn⟩
end
section
variable {X : Cx}
theorem pe_imp {e : Expr} {te te' : TE} (h : PE X e te) (k : ∀ σ H Q, te' σ H Q → te σ H Q) : PE X e te' := ⟨fun pins s σ H Q I g => h.run pins s σ H Q I (k σ H Q g)⟩
/-- a call while p is handled -/
theorem pe_callP {k : Nat} {ps : List Str} {sp : Addr × Obj → Sp} {x : Str} {q pos : Pos} {e : Expr} {es : List Expr} {t : TA} {p : Addr × Obj} (hp : p ∈ X.pn) (O : OwnP X.prog X.w X.K X.mg X.base k x ps sp) (hr : L2H.RoomH k X.A) (ha : PA X (e :: es) t) (hg : Gl X x := by rfl) (hdb : (x == ("__debug__" : Str)) = false := by decide) (he : starEach (e :: es) X.env = (false, eval e X.env) :: starEach es X.env := by rfl) (hpl : (backTo pos (starEach es X.env)).any (·.1) = false := by rfl) :
    PE X (.Call (.Name x q) (e :: es) [] pos) (fun σ H Q => t σ H fun vs H1 => sp p vs H1 Q E0) := by
  obtain ⟨f, fd, G, m, kp, b⟩ := O.ex
  constructor
  intro pins s σ H Q I h
  refine wpAny_Call_Name_kw (ld_glob I hg m ?_ hdb)
  refine PySem.W.callWith_K (h₀ := X.base) I.ok.mod.kin kp (thn (ha.run pos pins s σ H _ I h) fun us s1 z => ?_) he hpl
  obtain ⟨vs, H1, I1, r, g⟩ := z
  refine ⟨I1.kIn, ?_⟩
  have hl : us.length = ps.length := by
    rw [← r.length]
    exact (G p).len _ _ _ _ g
  have bb := b s1 us I1.kIn (by rw [List.append_nil]; exact hl)
  rw [List.append_nil] at bb
  have P1 := I1.pin p (List.mem_append_left _ hp)
  have pin : L2H.PinOk X.stack H1 s1 p := ⟨P1.1, P1.2.1, fun hm => (List.mem_cons.mp (I1.stkSub p.1 hm)).elim P1.2.2.1 P1.2.2.2.1, P1.2.2.2.2⟩
  refine wpAny_call (codeAny_mono ((G p).run X.A X.stack s1 H1 ⟨us, []⟩ us vs Q E0 hr pin I1.env0 bb r g) fun rs s2 hq => ?_)
  cases rs with
  | error e => exact hq.elim
  | ok fl =>
    cases fl with
    | ret u => exact I1.after hq
    | next => exact hq.elim
    | brk => exact hq.elim
    | cont => exact hq.elim
/-- isinstance(e, c), e the exception that is handled -/
theorem call_isP {p : Addr × Obj} {D : Addr} (hp : p ∈ X.pn) (C : ExcC X.K D) (hz : Zc (.ref D) none p.2) (hf : ∃ vs, p.2.data = .fields vs) : CallR X (.builtin "isinstance") (rIsE X.K D p.1) := by
  intro pins s σ H xs us Q I r h
  obtain ⟨c, cv, b, rfl, hcv, hk, q⟩ := h
  cases r with
  | cons rx rr =>
    cases rr with
    | cons rt rr2 =>
      cases rr2
      cases rx
      have ec := hcv _ rt
      subst ec
      have hget := (I.pin p (List.mem_append_left _ hp)).1
      have J : PySem.W.InstAt s.heap p.1 p.2 D none := by
        obtain ⟨vs, hv⟩ := hf
        obtain ⟨pa, po⟩ := p
        obtain ⟨oc, od, dt, sl⟩ := po
        obtain ⟨h1, h2⟩ := hz
        dsimp only at h1 h2 hv hget
        subst h1 h2 hv
        exact ⟨hget, rfl, rfl, trivial⟩
      exact PySem.W.kia_one (PySem.W.handS_kitx_exc C.hg C.hk C.hs C.hd C.ha C.hn C.ht C.hm) I.kIn J hk (fun z => nomatch z) fun tk => ⟨.bl b, H, I.kept (t' := tk) fun _ _ z => z, rfl, q⟩
/-- xs.count(b), bools -/
def rCntB (K : Kf) : V → List V → Hp → VK → Prop := fun x xs H Q => ∃ (p : Addr) (bs : List Bool) (k : Bool), x = .ref p ∧ xs = [.bl k] ∧ SqL K H p (bs.map V.bl) ∧ Q (.int ((bs.count k : Nat) : Int)) H
theorem bools_of : ∀ {bs : List Bool} {us : List Value}, Vals (bs.map V.bl) us → us = bs.map Value.bool
  | [], _, .nil => rfl
  | b :: bs, _, .cons r t => by
    cases r
    rw [bools_of t]
    rfl
theorem mt_cntB : MtR X "list.count" (rCntB X.K) := by
  intro pins s σ H x xs v us Q I rx rxs h
  obtain ⟨p, bs, k, rfl, rfl, hs, q⟩ := h
  cases rx
  obtain ⟨u, rfl, ru⟩ := rxs.one
  cases ru
  obtain ⟨its, rv, pl, hlen⟩ := I.list hs
  obtain ⟨⟨cls, dd, data, sl⟩, n, ho, hc, hdn, hd⟩ := pl
  simp only at hc hd
  subst hc hd
  have hb := bools_of rv
  subst hb
  refine call_meets PySem.F.slot_list_count ⟨_, ho, rfl⟩ PySem.F.entry_list_count (PySem.F.args_list_count_2 _ _) (SeqAt.list_countAt p (bs.map Value.bool).toArray n dd sl (.bool k) (fun y => decide (y = Value.bool k))) ⟨ho, fun y hy => ?_, ?_⟩
  · have hy2 : y ∈ bs.map Value.bool := by simpa using hy
    obtain ⟨c, _, rfl⟩ := List.mem_map.mp hy2
    have e : decide (Value.bool c = Value.bool k) = (c == k) := by cases c <;> cases k <;> rfl
    rw [e]
    exact SeqAt.EqAt.bool_bool c k
  · have e : (bs.map Value.bool).toArray.toList.countP (fun y => decide (y = Value.bool k)) = bs.count k := by
      rw [List.toList_toArray, List.countP_map, List.count]
      refine List.countP_congr fun c _ => ?_
      show decide (Value.bool c = Value.bool k) = true ↔ (c == k) = true
      cases c <;> cases k <;> decide
    refine ⟨.int ((bs.count k : Nat) : Int), H, I.tok _, ⟨s.toks, ?_⟩, q⟩
    show Value.int (((bs.map Value.bool).toArray.toList.countP (fun y => decide (y = Value.bool k)) : Nat) : Int) s.toks = Value.int ((bs.count k : Nat) : Int) s.toks
    rw [e]
/-- return word(e), in the suite of the exception a -/
def tWord (K : Kf) (a : Addr) (cls : Value) (d : Option Addr) (te : TE) : TE := fun σ H Q => te σ H fun v H1 => v = .ref a ∧ ∃ D i, cls = .ref D ∧ d = none ∧ i < 6 ∧ IsWord K D i ∧ ∀ H', Ex H1 H' → Q (.str (wordAt i)) H'
def sp_l_word_of (K : Kf) (p : Addr × Obj) : Sp := fun vs H Q _ => ∃ D i, vs = [.ref p.1] ∧ Zc (.ref D) none p.2 ∧ (∃ fs, p.2.data = .fields fs) ∧ i < 6 ∧ IsWord K D i ∧ RetV (.str (wordAt i)) H Q
theorem pe_word {k : Nat} {x : Str} {q pos : Pos} {e : Expr} {te : TE} {a : Addr} {oe : Obj} {cls : Value} {d : Option Addr} {pn : List (Addr × Obj)} (O : OwnP X.prog X.w X.K X.mg X.base k x ["e"] (sp_l_word_of X.K)) (hr : Room k X.A) (hz : Zc cls d oe) (hf : ∃ vs, oe.data = .fields vs) (ha : PE (X.suite a ((a, oe) :: pn)) e te) (hg : Gl (X.suite a ((a, oe) :: pn)) x := by rfl) (hdb : (x == ("__debug__" : Str)) = false := by decide) (he : starEach [e] X.env = (false, eval e X.env) :: starEach [] X.env := by rfl) (hpl : (backTo pos (starEach [] X.env)).any (·.1) = false := by rfl) :
    PE (X.suite a ((a, oe) :: pn)) (.Call (.Name x q) [e] [] pos) (tWord X.K a cls d te) := by
  refine pe_imp (pe_callP (X := X.suite a ((a, oe) :: pn)) (p := (a, oe)) List.mem_cons_self O ⟨hr.dp, hr.un⟩ (pa_cons ha pa_nil he) hg hdb he hpl) fun σ H Q g => ?_
  show te σ H fun v H1 => sp_l_word_of X.K (a, oe) [v] H1 Q E0
  have key : (fun v H1 => v = V.ref a ∧ ∃ D i, cls = .ref D ∧ d = none ∧ i < 6 ∧ IsWord X.K D i ∧ ∀ H', Ex H1 H' → Q (.str (wordAt i)) H') = fun v H1 => sp_l_word_of X.K (a, oe) [v] H1 Q E0 := by
    funext v H1
    refine propext ⟨?_, ?_⟩
    · rintro ⟨rfl, D, i, rfl, rfl, hi, hw, hq⟩
      exact ⟨D, i, rfl, hz, hf, hi, hw, hq⟩
    · rintro ⟨D, i, e1, ⟨z1, z2⟩, _, hi, hw, hq⟩
      refine ⟨(List.cons.inj e1).1, D, i, ?_, ?_, hi, hw, hq⟩
      · rw [← hz.1]
        exact z1
      · rw [← hz.2]
        exact z2
  rw [← key]
  exact g
/-- a call of an own def that may raise, in a try -/
theorem pe_ownS {CX : CXT} {k : Nat} {ps : List Str} {sp : Sp} {E : L2.St → XK} {x : Str} {p pos : Pos} {e : Expr} {es : List Expr} {t : TA} (F : Own X.prog X.w X.K X.mg X.base CX k x ps sp) (hr : Room k X.A) (hx : ∀ σ, PassesAt CX X σ (E σ)) (ha : PA X (e :: es) t) (hg : Gl X x := by rfl) (hdb : (x == ("__debug__" : Str)) = false := by decide)
    (he : starEach (e :: es) X.env = (false, eval e X.env) :: starEach es X.env := by rfl) (hpl : (backTo pos (starEach es X.env)).any (·.1) = false := by rfl) : PE X (.Call (.Name x p) (e :: es) [] pos) (tCallS sp E t) := by
  obtain ⟨f, fd, G, m, kp, b⟩ := F.ex
  exact pe_callS G hr hg m kp b hx ha hdb he hpl
end
/-! readings -/
section
variable {K : Kf} {σ : L2.St} {H H' : Hp} {ta tb te tl tx : TE} {t u : TT} {x y z v : V} {D : Ends} {tz tu : TS} {r : R2}
/-- whatever is wished of the value: it raises -/
def Rz (te : TE) (σ : L2.St) (H : Hp) : Prop := ∀ H1, Ex H H1 → ∀ Q : VK, te σ H1 Q
theorem Rz.mono (h : Rz te σ H) (e : Ex H H') : Rz te σ H' := fun H1 e1 Q => h H1 (e.trans e1) Q
theorem rz_call {sp : Sp} {E : XK} {ta : TA} {vs : List V} (h : EvA ta σ H vs) (hs : ∀ H1, Ex H H1 → ∀ Q : VK, sp vs H1 Q E) : Rz (tCall sp [] E ta) σ H := fun H1 e Q => h H1 e _ fun H2 e2 => by
  rw [List.append_nil]
  exact hs H2 (e.trans e2) Q
theorem rz_callN {sp : Sp} {E : XK} {xs : List V} (h : EvL ta σ H xs) (hs : ∀ p H1, Ex H H1 → H1 p = some (.lst xs) → ∀ Q : VK, sp [.ref p] H1 Q E) : Rz (tCall sp [] E (tCons ta tNil)) σ H := fun H1 e Q => h H1 e _ fun p H2 np e2 hp => hs p H2 (e.trans e2) hp Q
theorem rz_op2 (ha : Ev ta σ H x) (hb : Rz tb σ H) : Rz (tOp r ta tb) σ H := fun H1 e Q => ha H1 e _ fun H2 e2 => hb H2 (e.trans e2) _
theorem rz_op1 (ha : Rz ta σ H) : Rz (tOp r ta tb) σ H := fun H1 e Q => ha H1 e _
theorem rz_cb1 {rc : List V → Hp → VK → Prop} (ha : Rz ta σ H) : Rz (tCB rc (tCons ta tNil)) σ H := fun H1 e Q => ha H1 e _
theorem s_dropR (h : Rz te σ H) : tDrop te D σ H := h H (Ex.refl H) _
theorem q_dropR (h : Rz te σ H) : tSeq (tDrop te) tz D σ H := h H (Ex.refl H) _
theorem s_retR (h : Rz te σ H) : tRet te D σ H := h H (Ex.refl H) _
theorem q_asgR0 {i : Nat} (h : Rz te σ H) : tSeq (tAsg te (gName i)) tz D σ H := h H (Ex.refl H) _
/-- a call in a try, dropped -/
theorem s_dropS {sp : Sp} {E : L2.St → XK} {ta : TA} {vs : List V} (h : EvA ta σ H vs) (hs : ∀ H1, Ex H H1 → sp vs H1 (fun _ H2 => D.nx σ H2) (E σ)) : tDrop (tCallS sp E ta) D σ H := h H (Ex.refl H) _ fun H2 e2 => hs H2 e2
/-- what the clause wishes: the word is handed back -/
theorem word_wish {i : Nat} {c : Addr} {Wout : WX} {D : Ends} {ix : Nat} (hw : IsWord K c ix) (hix : ix < 6) (hi : i < σ.length) (k : ∀ H', Ex H H' → D.rt (.str (wordAt ix)) H') : wAs K (.ref (He.ga K "MoorError")) i (fun a cls d => tRet (tWord K a cls d (tVar i))) Wout D (.ref c) none σ H := by
  refine ⟨true, hw.moor, fun _ a na => ?_, fun z => by cases z⟩
  refine ⟨.ref a, ?_, rfl, c, ix, rfl, rfl, hix, hw, k⟩
  rw [List.getElem?_set_self hi]
theorem word_wish1 {i : Nat} {c : Addr} {Wout : WX} {D : Ends} {ix : Nat} (hw : IsWord K c ix) (hix : ix < 6) (hi : i < σ.length) (k : ∀ H', Ex H H' → D.rt (.str (wordAt ix)) H') : wAs K (.ref (He.ga K "MoorError")) i (fun a cls d => tRet (tWord K a cls d (tVar i))) Wout D (.ref c) none σ H := word_wish hw hix hi k
theorem q_whenN {b : Bool} (N : L2.St → Hp → Prop) (h : EvT t σ H b) (hk : ∀ σ' H', N σ' H' → tz D σ' H') (h1 : b = true → ∀ H1, Ex H H1 → (∀ σ' H', N σ' H' → tz D σ' H') → tu { D with nx := tz D } σ H1) (h2 : b = false → ∀ H1, Ex H H1 → N σ H1) : tSeq (tIfS t tu tNext) tz D σ H :=
  q_when h (fun hb H1 e1 => h1 hb H1 e1 hk) fun hb H1 e1 => hk _ _ (h2 hb H1 e1)
theorem q_ifN {tw : TS} {b : Bool} (N : L2.St → Hp → Prop) (h : EvT t σ H b) (hk : ∀ σ' H', N σ' H' → tz D σ' H') (h1 : b = true → ∀ H1, Ex H H1 → (∀ σ' H', N σ' H' → tz D σ' H') → tu { D with nx := tz D } σ H1) (h2 : b = false → ∀ H1, Ex H H1 → (∀ σ' H', N σ' H' → tz D σ' H') → tw { D with nx := tz D } σ H1) : tSeq (tIfS t tu tw) tz D σ H :=
  q_if h (fun hb H1 e1 => h1 hb H1 e1 hk) fun hb H1 e1 => h2 hb H1 e1 hk
theorem ev_isE {a D0 C : Addr} {b : Bool} (ha : Ev ta σ H (.ref a)) (hb : Ev tb σ H (.ref C)) (hk : PySem.W.kitOne K (.ref D0) (.ref C) = some b) : Ev (tCB (rIsE K D0 a) (tCons ta (tCons tb tNil))) σ H (.bl b) := fun H1 e Q q =>
  ha H1 e _ fun H2 e2 => hb H2 (e.trans e2) _ fun H3 e3 => ⟨.ref C, .ref C, b, rfl, fun u r => by cases r; rfl, hk, q H3 (e2.trans e3)⟩
theorem ev_isEV {a D0 : Addr} {b : Bool} (ha : Ev ta σ H (.ref a)) (hk : PySem.W.kitOne K (.ref D0) (.type "ValueError") = some b) : Ev (tCB (rIsE K D0 a) (tCons ta (tCons (tC (.ty "ValueError")) tNil))) σ H (.bl b) := fun H1 e Q q =>
  ha H1 e _ fun H2 e2 => ⟨.ty "ValueError", .type "ValueError", b, rfl, fun u r => by cases r; rfl, hk, q H2 e2⟩
theorem ev_cntB {p : Addr} {bs : List Bool} {k : Bool} (ha : Ev ta σ H (.ref p)) (hb : Ev tb σ H (.bl k)) (hS : H p = some (.lst (bs.map V.bl))) : Ev (tBM K "list" (rCntB K) ta (tCons tb tNil)) σ H (.int ((bs.count k : Nat) : Int)) := fun H1 e Q q =>
  ha H1 e _ fun H2 e2 => ⟨Or.inl ⟨rfl, _, sq_of (e2 _ _ (e _ _ hS))⟩, hb H2 (e.trans e2) _ fun H3 e3 => ⟨p, bs, k, rfl, rfl, sq_of (e3 _ _ (e2 _ _ (e _ _ hS))), q H3 (e2.trans e3)⟩⟩
def marks (i : Nat) : List Bool := (List.range 6).map fun j => decide (j = i)
theorem ev_idxB {p : Addr} {i : Nat} (hi : i < 6) (ha : Ev ta σ H (.ref p)) (hb : Ev tb σ H (.bl true)) (hS : H p = some (.lst ((marks i).map V.bl))) : Ev (tBM K "list" (rIndex K) ta (tCons tb tNil)) σ H (.int (i : Int)) := fun H1 e Q q =>
  ha H1 e _ fun H2 e2 => ⟨Or.inl ⟨rfl, _, sq_of (e2 _ _ (e _ _ hS))⟩, hb H2 (e.trans e2) _ fun H3 e3 => ⟨p, (marks i).map V.bl, .bl true, i, .bl true, rfl, rfl, sq_of (e3 _ _ (e2 _ _ (e _ _ hS))), rfl, by
    rw [List.all_map, List.all_eq_true]
    intro _ _
    rfl, by
    unfold marks
    rw [List.getElem?_map, List.getElem?_map, List.getElem?_range hi]
    show some (V.bl (decide (i = i))) = _
    rw [decide_eq_true rfl], rfl, fun m z hm hz => by
    unfold marks at hz
    rw [List.getElem?_map, List.getElem?_map, List.getElem?_range (by omega)] at hz
    cases hz
    show (decide (m = i) == true) = false
    rw [decide_eq_false (by omega)]
    rfl, q H3 (e2.trans e3)⟩⟩
end
end Wm

/-! MATH: mooring at a quay -/
namespace Wm
theorem snocInd {α : Type} {P : List α → Prop} (h0 : P []) (hs : ∀ l x, P l → P (l ++ [x])) : ∀ {l : List α}, P l := by
  intro l
  have key : ∀ m : List α, P m.reverse := by
    intro m
    induction m with
    | nil => exact h0
    | cons x m ih =>
      rw [List.reverse_cons]
      exact hs _ _ ih
  have := key l.reverse
  rw [List.reverse_reverse] at this
  exact this
/-- the first free place from w on -/
def firstFree (long : Nat) (tk : Nat → Bool) (w : Nat) : Option Nat := (List.range' w (long - w)).find? fun p => !tk p
def moorStep (long : Nat) (acc : List (Option Nat)) (w : Nat) : List (Option Nat) := acc ++ [firstFree long (fun p => decide (some p ∈ acc)) w]
def mooredL (long : Nat) (ws : List Nat) : List (Option Nat) := ws.foldl (moorStep long) []
theorem mooredL_snoc (long : Nat) (ws : List Nat) (w : Nat) : mooredL long (ws ++ [w]) = mooredL long ws ++ [firstFree long (fun p => decide (some p ∈ mooredL long ws)) w] := by
  unfold mooredL
  rw [List.foldl_append]
  rfl
theorem mooredL_take {long : Nat} {ws : List Nat} {i w : Nat} (h : ws[i]? = some w) : mooredL long (ws.take (i + 1)) = mooredL long (ws.take i) ++ [firstFree long (fun p => decide (some p ∈ mooredL long (ws.take i))) w] := by
  rw [List.take_add_one, h]
  exact mooredL_snoc long (ws.take i) w
theorem foldl_len (long : Nat) : ∀ (ws : List Nat) (acc : List (Option Nat)), (ws.foldl (moorStep long) acc).length = acc.length + ws.length
  | [], acc => rfl
  | w :: ws, acc => by
    show (ws.foldl (moorStep long) (moorStep long acc w)).length = _
    rw [foldl_len long ws]
    unfold moorStep
    rw [List.length_append, List.length_cons, List.length_cons, List.length_nil]
    omega
theorem mooredL_len (long : Nat) (ws : List Nat) : (mooredL long ws).length = ws.length := by
  unfold mooredL
  rw [foldl_len]
  exact Nat.zero_add _
/-- what firstFree finds -/
theorem firstFree_some {long w p : Nat} {tk : Nat → Bool} (h : firstFree long tk w = some p) : w ≤ p ∧ p < long ∧ tk p = false ∧ ∀ q, w ≤ q → q < p → tk q = true := by
  unfold firstFree at h
  obtain ⟨h1, i, hi, e, hlt⟩ := List.find?_eq_some_iff_getElem.mp h
  rw [List.getElem_range'] at e
  rw [List.length_range'] at hi
  refine ⟨by omega, by omega, by simpa using h1, fun q hq hqp => ?_⟩
  have h2 := hlt (q - w) (by omega)
  rw [List.getElem_range'] at h2
  have e2 : w + 1 * (q - w) = q := by omega
  rw [e2] at h2
  simpa using h2
theorem firstFree_none {long w : Nat} {tk : Nat → Bool} (h : firstFree long tk w = none) : ∀ q, w ≤ q → q < long → tk q = true := by
  unfold firstFree at h
  intro q hq hl
  have h2 := List.find?_eq_none.mp h q (by rw [List.mem_range'_1]; omega)
  simpa using h2
theorem firstFree_is {long w p : Nat} {tk : Nat → Bool} (h1 : w ≤ p) (h2 : p < long) (h3 : tk p = false) (h4 : ∀ q, w ≤ q → q < p → tk q = true) : firstFree long tk w = some p := by
  cases e : firstFree long tk w with
  | none =>
    have := firstFree_none e p h1 h2
    rw [h3] at this
    cases this
  | some q =>
    obtain ⟨a, b, c, d⟩ := firstFree_some e
    by_cases hlt : q < p
    · rw [h4 q a hlt] at c
      cases c
    · by_cases hgt : p < q
      · rw [d p h1 hgt] at h3
        cases h3
      · have : q = p := by omega
        rw [this]
theorem firstFree_isNone {long w : Nat} {tk : Nat → Bool} (h : ∀ q, w ≤ q → q < long → tk q = true) : firstFree long tk w = none := by
  cases e : firstFree long tk w with
  | none => rfl
  | some p =>
    obtain ⟨a, b, c, d⟩ := firstFree_some e
    rw [h p a b] at c
    cases c
theorem mooredL_lt {long : Nat} {ws : List Nat} : ∀ {p : Nat}, some p ∈ mooredL long ws → p < long := by
  refine snocInd (P := fun ws => ∀ {p : Nat}, some p ∈ mooredL long ws → p < long) (fun h => by cases h) (fun ws w ih => ?_)
  · intro p h
    rw [mooredL_snoc, List.mem_append, List.mem_singleton] at h
    rcases h with h | h
    · exact ih h
    · exact (firstFree_some h.symm).2.1
end Wm

/-! MATH: a row of a quay -/
namespace Wm
structure Row (long : Nat) (ws : List Nat) : Prop where
  lo : 1 ≤ long
  hi : long ≤ 40
  few : ws.length ≤ long
  lt : ∀ w ∈ ws, w < long
end Wm

/-! MATH: what flows over from place to place -/
namespace Wm
def cAt (ws : List Nat) (p : Nat) : Nat := ws.countP fun w => decide (w = p)
def cnt (ws : List Nat) (p : Nat) : Nat := ws.countP fun w => decide (p ≤ w)
/-- how many boats come to place p from the places before it -/
def over (ws : List Nat) : Nat → Nat
  | 0 => 0
  | p + 1 => over ws p + cAt ws p - 1
theorem cAt_snoc (ws : List Nat) (w p : Nat) : cAt (ws ++ [w]) p = cAt ws p + if w = p then 1 else 0 := by
  unfold cAt
  rw [List.countP_append, List.countP_singleton]
  by_cases e : w = p <;> simp [e]
theorem over_before {ws : List Nat} {w : Nat} : ∀ {p : Nat}, p ≤ w → over (ws ++ [w]) p = over ws p
  | 0, _ => rfl
  | p + 1, h => by
    show over (ws ++ [w]) p + cAt (ws ++ [w]) p - 1 = over ws p + cAt ws p - 1
    rw [over_before (Nat.le_of_lt h), cAt_snoc, if_neg (by omega), Nat.add_zero]
/-- from w on while the places are taken, one boat more -/
theorem over_along {ws : List Nat} {w : Nat} : ∀ {k : Nat}, (∀ q, w ≤ q → q < w + k → 1 ≤ over ws q + cAt ws q) → 1 ≤ k → over (ws ++ [w]) (w + k) = over ws (w + k) + 1
  | 0, _, h => absurd h (by decide)
  | 1, h, _ => by
    show over (ws ++ [w]) w + cAt (ws ++ [w]) w - 1 = over ws w + cAt ws w - 1 + 1
    have := h w (Nat.le_refl _) (by omega)
    rw [over_before (Nat.le_refl w), cAt_snoc, if_pos rfl]
    omega
  | k + 2, h, _ => by
    have ih := over_along (ws := ws) (w := w) (k := k + 1) (fun q h1 h2 => h q h1 (by omega)) (by omega)
    have h2 := h (w + (k + 1)) (by omega) (by omega)
    show over (ws ++ [w]) (w + (k + 1)) + cAt (ws ++ [w]) (w + (k + 1)) - 1 = over ws (w + (k + 1)) + cAt ws (w + (k + 1)) - 1 + 1
    rw [ih, cAt_snoc, if_neg (by omega)]
    omega
/-- at the free place that the boat takes, one boat more stands there -/
theorem over_at {ws : List Nat} {w q : Nat} (hq : w ≤ q) (h : ∀ r, w ≤ r → r < q → 1 ≤ over ws r + cAt ws r) : over (ws ++ [w]) q + cAt (ws ++ [w]) q = over ws q + cAt ws q + 1 := by
  by_cases e : w = q
  · subst e
    rw [over_before (Nat.le_refl w), cAt_snoc, if_pos rfl]
    omega
  · have e2 : q = w + (q - w) := by omega
    have h2 := over_along (ws := ws) (w := w) (k := q - w) (fun r h1 h2 => h r h1 (by omega)) (by omega)
    rw [← e2] at h2
    rw [h2, cAt_snoc, if_neg e]
    omega
theorem over_after {ws : List Nat} {w q : Nat} (hq : w ≤ q) (h : ∀ r, w ≤ r → r < q → 1 ≤ over ws r + cAt ws r) (hz : over ws q + cAt ws q = 0) : ∀ {p : Nat}, q < p → over (ws ++ [w]) p = over ws p := by
  intro p hp
  induction p with
  | zero => omega
  | succ p ih =>
    show over (ws ++ [w]) p + cAt (ws ++ [w]) p - 1 = over ws p + cAt ws p - 1
    by_cases e : p = q
    · rw [e, over_at hq h]
      omega
    · rw [ih (by omega), cAt_snoc, if_neg (by omega), Nat.add_zero]
/-- a place is taken just where a boat comes to it -/
theorem taken_iff {long : Nat} {ws : List Nat} : (∀ w ∈ ws, w < long) → ∀ p, p < long → (some p ∈ mooredL long ws ↔ 1 ≤ over ws p + cAt ws p) := by
  refine snocInd (P := fun ws => (∀ w ∈ ws, w < long) → ∀ p, p < long → (some p ∈ mooredL long ws ↔ 1 ≤ over ws p + cAt ws p)) (fun _ p _ => ?_) (fun ws w ih hw p hp => ?_)
  · have h0 : ∀ p, over [] p = 0 := by
      intro p
      induction p with
      | zero => rfl
      | succ p ih =>
        show over [] p + cAt [] p - 1 = 0
        rw [ih]
        rfl
    rw [h0]
    constructor
    · intro h
      cases h
    · intro h
      exact absurd h (by unfold cAt; simp)
  have ih2 := ih fun x hx => hw x (List.mem_append_left _ hx)
  have hwl := hw w (List.mem_append_right _ (List.mem_singleton.mpr rfl))
  rw [mooredL_snoc, List.mem_append, List.mem_singleton]
  cases e : firstFree long (fun p => decide (some p ∈ mooredL long ws)) w with
  | none =>
    have h1 : ∀ r, w ≤ r → r < long → 1 ≤ over ws r + cAt ws r := fun r a b => (ih2 r b).mp (of_decide_eq_true (firstFree_none e r a b))
    have e3 : ¬ (some p = (none : Option Nat)) := fun z => by cases z
    simp only [e3, or_false]
    rw [ih2 p hp]
    by_cases hwp : w ≤ p
    · rw [over_at hwp fun r a b => h1 r a (by omega)]
      have := h1 p hwp hp
      omega
    · rw [over_before (by omega), cAt_snoc, if_neg (by omega), Nat.add_zero]
  | some q =>
    obtain ⟨a, b, c, d⟩ := firstFree_some e
    have h1 : ∀ r, w ≤ r → r < q → 1 ≤ over ws r + cAt ws r := fun r x y => (ih2 r (by omega)).mp (of_decide_eq_true (d r x y))
    have hz : over ws q + cAt ws q = 0 := by
      have h2 := of_decide_eq_false c
      rw [ih2 q b] at h2
      omega
    rw [ih2 p hp]
    have e3 : (some p = some q) ↔ p = q := ⟨Option.some.inj, congrArg some⟩
    rw [e3]
    by_cases hpq : p = q
    · subst hpq
      rw [over_at a h1]
      omega
    · by_cases hlt : p < q
      · by_cases hwp : w ≤ p
        · rw [over_at hwp fun r x y => h1 r x (by omega)]
          have := h1 p hwp hlt
          omega
        · rw [over_before (by omega), cAt_snoc, if_neg (by omega)]
          omega
      · rw [over_after a h1 hz (by omega), cAt_snoc, if_neg (by omega)]
        omega
/-- as many sail on as flow over behind the last place -/
theorem gone_count {long : Nat} {ws : List Nat} : (∀ w ∈ ws, w < long) → (mooredL long ws).countP (fun o => decide (o = none)) = over ws long := by
  refine snocInd (P := fun ws => (∀ w ∈ ws, w < long) → (mooredL long ws).countP (fun o => decide (o = none)) = over ws long) (fun _ => ?_) (fun ws w ih hw => ?_)
  · have h0 : ∀ p, over [] p = 0 := by
      intro p
      induction p with
      | zero => rfl
      | succ p ih =>
        show over [] p + cAt [] p - 1 = 0
        rw [ih]
        rfl
    rw [h0]
    rfl
  have hw2 : ∀ x ∈ ws, x < long := fun x hx => hw x (List.mem_append_left _ hx)
  have ih2 := ih hw2
  have hwl := hw w (List.mem_append_right _ (List.mem_singleton.mpr rfl))
  have tk := taken_iff (long := long) hw2
  rw [mooredL_snoc, List.countP_append, List.countP_singleton, ih2]
  cases e : firstFree long (fun p => decide (some p ∈ mooredL long ws)) w with
  | none =>
    have h1 : ∀ r, w ≤ r → r < long → 1 ≤ over ws r + cAt ws r := fun r a b => (tk r b).mp (of_decide_eq_true (firstFree_none e r a b))
    have e2 : long = w + (long - w) := by omega
    have h2 := over_along (ws := ws) (w := w) (k := long - w) (fun r a b => h1 r a (by omega)) (by omega)
    rw [← e2] at h2
    rw [h2]
    simp
  | some q =>
    obtain ⟨a, b, c, d⟩ := firstFree_some e
    have h1 : ∀ r, w ≤ r → r < q → 1 ≤ over ws r + cAt ws r := fun r x y => (tk r (by omega)).mp (of_decide_eq_true (d r x y))
    have hz : over ws q + cAt ws q = 0 := by
      have h2 := of_decide_eq_false c
      rw [tk q b] at h2
      omega
    rw [over_after a h1 hz b]
    simp
/-! counts from a place on -/
def cntB (ws : List Nat) (p n : Nat) : Nat := ws.countP fun w => decide (p ≤ w ∧ w < n)
theorem cntB_succ (p n : Nat) (h : p ≤ n) : ∀ ws : List Nat, cntB ws p (n + 1) = cntB ws p n + cAt ws n
  | [] => rfl
  | w :: ws => by
    have ih := cntB_succ p n h ws
    unfold cntB cAt at ih ⊢
    rw [List.countP_cons, List.countP_cons, List.countP_cons, ih]
    by_cases e : w = n
    · subst e
      have h1 : decide (p ≤ w ∧ w < w + 1) = true := decide_eq_true ⟨h, by omega⟩
      have h2 : decide (p ≤ w ∧ w < w) = false := decide_eq_false (by omega)
      simp only [h1, h2, decide_true, if_true, Bool.false_eq_true, if_false]
      omega
    · have h1 : decide (p ≤ w ∧ w < n + 1) = decide (p ≤ w ∧ w < n) := decide_eq_decide.mpr (by omega)
      have h2 : decide (w = n) = false := decide_eq_false e
      simp only [h1, h2, Bool.false_eq_true, if_false]
      omega
theorem cntB_self (ws : List Nat) (n : Nat) : cntB ws n n = 0 := by
  unfold cntB
  rw [List.countP_eq_zero]
  intro w _
  rw [decide_eq_true_eq]
  omega
theorem cntB_cnt {ws : List Nat} {long : Nat} (h : ∀ w ∈ ws, w < long) (p : Nat) : cntB ws p long = cnt ws p := by
  unfold cntB cnt
  refine List.countP_congr fun w hw => ?_
  have := h w hw
  rw [decide_eq_true_eq, decide_eq_true_eq]
  omega
theorem over_ge (ws : List Nat) : ∀ n p, p ≤ n → cntB ws p n ≤ over ws n + (n - p)
  | 0, p, h => by
    have e : p = 0 := by omega
    rw [e, cntB_self]
    omega
  | n + 1, p, h => by
    by_cases e : p = n + 1
    · rw [e, cntB_self]
      omega
    · have h2 : p ≤ n := by omega
      have ih := over_ge ws n p h2
      rw [cntB_succ p n h2]
      show _ ≤ over ws n + cAt ws n - 1 + (n + 1 - p)
      omega
theorem over_is (ws : List Nat) : ∀ n, ∃ p, p ≤ n ∧ cntB ws p n = over ws n + (n - p)
  | 0 => ⟨0, Nat.le_refl _, by rw [cntB_self]; rfl⟩
  | n + 1 => by
    obtain ⟨p, hp, e⟩ := over_is ws n
    by_cases h : 1 ≤ over ws n + cAt ws n
    · refine ⟨p, by omega, ?_⟩
      rw [cntB_succ p n hp, e]
      show _ = over ws n + cAt ws n - 1 + (n + 1 - p)
      omega
    · refine ⟨n + 1, Nat.le_refl _, ?_⟩
      rw [cntB_self]
      show 0 = over ws n + cAt ws n - 1 + (n + 1 - (n + 1))
      omega
/-- point 4 -/
theorem whole_iff {long : Nat} {ws : List Nat} (h : ∀ w ∈ ws, w < long) : none ∉ mooredL long ws ↔ ∀ p, p < long → cnt ws p ≤ long - p := by
  have h1 : none ∉ mooredL long ws ↔ over ws long = 0 := by
    rw [← gone_count h, List.countP_eq_zero]
    constructor
    · intro a o ho
      rw [decide_eq_true_eq]
      intro e
      rw [e] at ho
      exact a ho
    · intro a ho
      exact a none ho (decide_eq_true rfl)
  rw [h1]
  constructor
  · intro e p hp
    have := over_ge ws long p (by omega)
    rw [cntB_cnt h] at this
    omega
  · intro a
    obtain ⟨p, hp, e⟩ := over_is ws long
    rw [cntB_cnt h] at e
    by_cases hpl : p < long
    · have := a p hpl
      omega
    · have e2 : p = long := by omega
      have e3 : cnt ws p = 0 := by
        unfold cnt
        rw [List.countP_eq_zero]
        intro w hw
        have := h w hw
        rw [decide_eq_true_eq]
        omega
      omega
/-- the crowd -/
def CrowdIs (long : Nat) (ws : List Nat) : Option Nat → Prop
  | none => ∀ p, p < long → cnt ws p ≤ long - p
  | some p => p < long ∧ long - p < cnt ws p ∧ ∀ q, p < q → q < long → cnt ws q ≤ long - q
theorem CrowdIs.uniq {long : Nat} {ws : List Nat} {a b : Option Nat} (h : CrowdIs long ws a) (g : CrowdIs long ws b) : a = b := by
  cases a with
  | none => cases b with
    | none => rfl
    | some q =>
      obtain ⟨g1, g2, _⟩ := g
      have := h q g1
      omega
  | some p =>
    obtain ⟨h1, h2, h3⟩ := h
    cases b with
    | none =>
      have := g p h1
      omega
    | some q =>
      obtain ⟨g1, g2, g3⟩ := g
      congr 1
      by_cases l : p < q
      · have := h3 q l g1
        omega
      · by_cases l2 : q < p
        · have := g3 p l2 h1
          omega
        · omega
def crowdL (long : Nat) (ws : List Nat) : Option Nat := (List.range long).foldl (fun o p => if long - p < cnt ws p then some p else o) none
theorem crowdL_is (long : Nat) (ws : List Nat) : CrowdIs long ws (crowdL long ws) := by
  have key : ∀ n, n ≤ long → match (List.range n).foldl (fun o p => if long - p < cnt ws p then some p else o) none with
      | none => ∀ p, p < n → cnt ws p ≤ long - p
      | some p => p < n ∧ long - p < cnt ws p ∧ ∀ q, p < q → q < n → cnt ws q ≤ long - q := by
    intro n
    induction n with
    | zero =>
      intro _ p hp
      omega
    | succ n ih =>
      intro hn
      have ih2 := ih (by omega)
      rw [List.range_succ, List.foldl_append, List.foldl_cons, List.foldl_nil]
      by_cases c : long - n < cnt ws n
      · rw [if_pos c]
        exact ⟨by omega, c, fun q h1 h2 => by omega⟩
      · rw [if_neg c]
        generalize (List.range n).foldl (fun o p => if long - p < cnt ws p then some p else o) none = o at ih2
        cases o with
        | none =>
          intro p hp
          by_cases e : p = n
          · rw [e]
            omega
          · exact ih2 p (by omega)
        | some r =>
          obtain ⟨a, b, d⟩ := ih2
          refine ⟨by omega, b, fun q h1 h2 => ?_⟩
          by_cases e : q = n
          · rw [e]
            omega
          · exact d q h1 (by omega)
  have h := key long (Nat.le_refl _)
  unfold crowdL
  generalize (List.range long).foldl (fun o p => if long - p < cnt ws p then some p else o) none = o at h ⊢
  cases o with
  | none => exact h
  | some p => exact h
theorem cnt_succ (ws : List Nat) (p : Nat) : cnt ws p = cnt ws (p + 1) + cAt ws p := by
  unfold cnt cAt
  induction ws with
  | nil => rfl
  | cons w ws ih =>
    rw [List.countP_cons, List.countP_cons, List.countP_cons, ih]
    by_cases e : w = p
    · subst e
      have h1 : decide (w ≤ w) = true := decide_eq_true (Nat.le_refl _)
      have h2 : decide (w + 1 ≤ w) = false := decide_eq_false (by omega)
      simp only [h1, h2, decide_true, if_true, Bool.false_eq_true, if_false]
      omega
    · have h1 : decide (p ≤ w) = decide (p + 1 ≤ w) := decide_eq_decide.mpr (by omega)
      have h2 : decide (w = p) = false := decide_eq_false e
      simp only [h1, h2, Bool.false_eq_true, if_false]
      omega
theorem cnt_top {ws : List Nat} {long : Nat} (h : ∀ w ∈ ws, w < long) : cnt ws long = 0 := by
  unfold cnt
  rw [List.countP_eq_zero]
  intro w hw
  have := h w hw
  rw [decide_eq_true_eq]
  omega
end Wm

/-! MATH: mooring on the ring -/
namespace Wm
theorem nodup_len {α : Type} [DecidableEq α] : ∀ {l m : List α}, l.Nodup → (∀ x ∈ l, x ∈ m) → l.length ≤ m.length
  | [], m, _, _ => Nat.zero_le _
  | x :: l, m, hn, hs => by
    have hx := hs x List.mem_cons_self
    have hn2 := List.nodup_cons.mp hn
    have ih := nodup_len (l := l) (m := m.erase x) hn2.2 fun y hy => by
      have hy2 := hs y (List.mem_cons_of_mem _ hy)
      have hne : y ≠ x := fun e => hn2.1 (e ▸ hy)
      exact (List.mem_erase_of_ne hne).mpr hy2
    rw [List.length_erase_of_mem hx] at ih
    have : 0 < m.length := List.length_pos_of_mem hx
    rw [List.length_cons]
    omega
/-- a ring's row -/
structure RRow (ws : List Nat) : Prop where
  lo : 1 ≤ ws.length
  hi : ws.length ≤ 39
  lt : ∀ w ∈ ws, w ≤ ws.length
def ringWay (a w : Nat) : List Nat := (List.range a).map fun k => (w + k) % a
def ringFree (a : Nat) (acc : List Nat) (w : Nat) : Nat := ((ringWay a w).find? fun p => !decide (p ∈ acc)).getD 0
def ringL (a : Nat) (ws : List Nat) : List Nat := ws.foldl (fun acc w => acc ++ [ringFree a acc w]) []
theorem ringL_snoc (a : Nat) (ws : List Nat) (w : Nat) : ringL a (ws ++ [w]) = ringL a ws ++ [ringFree a (ringL a ws) w] := by
  unfold ringL
  rw [List.foldl_append]
  rfl
theorem ringL_take {a : Nat} {ws : List Nat} {i w : Nat} (h : ws[i]? = some w) : ringL a (ws.take (i + 1)) = ringL a (ws.take i) ++ [ringFree a (ringL a (ws.take i)) w] := by
  rw [List.take_add_one, h]
  exact ringL_snoc a (ws.take i) w
theorem ringL_len (a : Nat) (ws : List Nat) : (ringL a ws).length = ws.length := by
  refine snocInd (P := fun ws => (ringL a ws).length = ws.length) rfl fun ws w ih => ?_
  rw [ringL_snoc, List.length_append, ih, List.length_append]
  rfl
theorem ringWay_mem {a w x : Nat} (ha : 0 < a) (hx : x < a) : x ∈ ringWay a w := by
  refine List.mem_map.mpr ⟨(x + a * w - w) % a, List.mem_range.mpr (Nat.mod_lt _ ha), ?_⟩
  have h1 : w ≤ a * w := Nat.le_mul_of_pos_left w ha
  rw [Nat.add_mod, Nat.mod_mod, ← Nat.add_mod]
  have e : w + (x + a * w - w) = x + a * w := by omega
  rw [e, Nat.add_mul_mod_self_left, Nat.mod_eq_of_lt hx]
/-- while boats are fewer than places, a place is found -/
theorem ringFree_find {a w : Nat} {acc : List Nat} (h : acc.length < a) : ∃ k, k < a ∧ ringFree a acc w = (w + k) % a ∧ (w + k) % a ∉ acc ∧ ∀ j, j < k → (w + j) % a ∈ acc := by
  cases e : (ringWay a w).find? fun p => !decide (p ∈ acc) with
  | none =>
    exfalso
    have h2 := List.find?_eq_none.mp e
    have h3 := nodup_len (l := List.range a) (m := acc) List.nodup_range fun x hx => by
      have := h2 x (ringWay_mem (by omega) (List.mem_range.mp hx))
      simpa using this
    rw [List.length_range] at h3
    omega
  | some p =>
    obtain ⟨h1, i, hi, e2, hlt⟩ := List.find?_eq_some_iff_getElem.mp e
    unfold ringWay at hi
    rw [List.length_map, List.length_range] at hi
    have e3 : (w + i) % a = p := by
      rw [← e2]
      unfold ringWay
      rw [List.getElem_map, List.getElem_range]
    refine ⟨i, hi, ?_, ?_, fun j hj => ?_⟩
    · unfold ringFree
      rw [e, e3]
      rfl
    · rw [e3]
      simpa using h1
    · have h4 := hlt j hj
      unfold ringWay at h4
      rw [List.getElem_map, List.getElem_range] at h4
      simpa using h4
theorem ringFree_is {a w k : Nat} {acc : List Nat} (hk : k < a) (h1 : (w + k) % a ∉ acc) (h2 : ∀ j, j < k → (w + j) % a ∈ acc) (h : acc.length < a) : ringFree a acc w = (w + k) % a := by
  obtain ⟨i, hi, e, a1, a2⟩ := ringFree_find (w := w) h
  have : i = k := by
    by_cases l : i < k
    · exact absurd (h2 i l) a1
    · by_cases g : k < i
      · exact absurd (a2 k g) h1
      · omega
  rw [e, this]
theorem ringL_good {a : Nat} {ws : List Nat} : ws.length < a → (ringL a ws).Nodup ∧ ∀ p ∈ ringL a ws, p < a := by
  refine snocInd (P := fun ws => ws.length < a → (ringL a ws).Nodup ∧ ∀ p ∈ ringL a ws, p < a) (fun _ => ⟨List.nodup_nil, fun p h => by cases h⟩) fun ws w ih h => ?_
  rw [List.length_append] at h
  have h0 : ws.length < a := by omega
  obtain ⟨n, l⟩ := ih h0
  obtain ⟨k, hk, e, hn, _⟩ := ringFree_find (a := a) (w := w) (acc := ringL a ws) (by rw [ringL_len]; exact h0)
  rw [ringL_snoc, e]
  refine ⟨List.nodup_append.mpr ⟨n, by simp, fun x hx y hy => ?_⟩, fun p hp => ?_⟩
  · have : y = (w + k) % a := by simpa using hy
    rw [this]
    intro e2
    rw [e2] at hx
    exact hn hx
  · rcases List.mem_append.mp hp with hp | hp
    · exact l p hp
    · rw [List.mem_singleton.mp hp]
      exact Nat.mod_lt _ (by omega)
/-- the place that stays free -/
def freeL (a : Nat) (ws : List Nat) : Nat := ((List.range a).find? fun p => !decide (p ∈ ringL a ws)).getD 0
theorem freeL_is {a : Nat} {ws : List Nat} (h : ws.length + 1 = a) : freeL a ws < a ∧ freeL a ws ∉ ringL a ws ∧ (ringL a ws ++ [freeL a ws]).Perm (List.range a) := by
  obtain ⟨n, l⟩ := ringL_good (a := a) (ws := ws) (by omega)
  have hf : freeL a ws < a ∧ freeL a ws ∉ ringL a ws := by
    unfold freeL
    cases e : (List.range a).find? fun p => !decide (p ∈ ringL a ws) with
    | none =>
      exfalso
      have h2 := List.find?_eq_none.mp e
      have h3 := nodup_len (l := List.range a) (m := ringL a ws) List.nodup_range fun x hx => by
        have := h2 x hx
        simpa using this
      rw [List.length_range, ringL_len] at h3
      omega
    | some p =>
      have h1 := List.mem_of_find?_eq_some e
      have h2 := List.find?_some e
      exact ⟨List.mem_range.mp h1, by simpa using h2⟩
  refine ⟨hf.1, hf.2, ?_⟩
  have hn : (ringL a ws ++ [freeL a ws]).Nodup := List.nodup_append.mpr ⟨n, by simp, fun x hx y hy => by
    have : y = freeL a ws := by simpa using hy
    rw [this]
    intro e2
    rw [e2] at hx
    exact hf.2 hx⟩
  have hlt : ∀ p ∈ ringL a ws ++ [freeL a ws], p < a := fun p hp => by
    rcases List.mem_append.mp hp with hp | hp
    · exact l p hp
    · rw [List.mem_singleton.mp hp]
      exact hf.1
  refine (List.perm_ext_iff_of_nodup hn List.nodup_range).mpr fun p => ⟨fun hp => List.mem_range.mpr (hlt p hp), fun hp => ?_⟩
  by_cases hm : p ∈ ringL a ws ++ [freeL a ws]
  · exact hm
  · exfalso
    have h3 := nodup_len (l := p :: (ringL a ws ++ [freeL a ws])) (m := List.range a) (List.nodup_cons.mpr ⟨hm, hn⟩) fun x hx => by
      rcases List.mem_cons.mp hx with e | hx
      · rw [e]
        exact hp
      · exact List.mem_range.mpr (hlt x hx)
    rw [List.length_cons, List.length_append, ringL_len, List.length_range, List.length_singleton] at h3
    omega
/-- the only place that nobody takes -/
theorem freeL_only {a : Nat} {ws : List Nat} (h : ws.length + 1 = a) {p : Nat} (hp : p < a) (hn : p ∉ ringL a ws) : p = freeL a ws := by
  have h1 := (freeL_is h).2.2.mem_iff.mpr (List.mem_range.mpr hp)
  rcases List.mem_append.mp h1 with h1 | h1
  · exact absurd h1 hn
  · exact List.mem_singleton.mp h1
theorem sum_range (a : Nat) : 2 * (List.range a).sum = a * (a - 1) := by
  induction a with
  | zero => rfl
  | succ a ih =>
    rw [List.range_succ, List.sum_append, Nat.mul_add, ih]
    show a * (a - 1) + 2 * (a + 0) = (a + 1) * (a + 1 - 1)
    rw [Nat.add_sub_cancel, Nat.add_zero]
    cases a with
    | zero => rfl
    | succ b =>
      rw [Nat.add_sub_cancel, Nat.add_mul (b + 1) 1 (b + 1)]
      have : (b + 1) * (b + 1) = (b + 1) * b + (b + 1) := by rw [Nat.mul_add, Nat.mul_one]
      omega
theorem sum_int (l : List Nat) : ((l.map Int.ofNat).sum : Int) = ((l.sum : Nat) : Int) := by
  induction l with
  | nil => rfl
  | cons x l ih =>
    rw [List.map_cons, List.sum_cons, List.sum_cons, ih, Int.natCast_add]
    rfl
theorem free_sum {a : Nat} {ws : List Nat} (h : ws.length + 1 = a) : (a : Int) * ((a : Int) - 1) / 2 - (((ringL a ws).map Int.ofNat).sum : Int) = (freeL a ws : Int) := by
  have h1 := (freeL_is h).2.2.sum_nat
  rw [List.sum_append] at h1
  have h2 := sum_range a
  rw [sum_int]
  have e3 : (a : Int) * ((a : Int) - 1) = ((a * (a - 1) : Nat) : Int) := by
    rw [Int.natCast_mul]
    congr 1
    omega
  rw [e3, ← h2]
  have h4 : [freeL a ws].sum = freeL a ws := by simp
  rw [h4] at h1
  omega
end Wm

/-! MATH: rows told by trees, trees by rows -/
namespace Wm
theorem getD_some {l : List Nat} {i : Nat} (h : i < l.length) : l[i]? = some (l.getD i 0) := by
  rw [List.getD_eq_getElem?_getD, List.getElem?_eq_getElem h]
  rfl
theorem getD_mem {l : List Nat} {i : Nat} (h : i < l.length) : l.getD i 0 ∈ l := List.mem_of_getElem? (getD_some h)
theorem mem_getD {l : List Nat} {x : Nat} (h : x ∈ l) : ∃ i, i < l.length ∧ l.getD i 0 = x := by
  obtain ⟨i, hi, e⟩ := List.mem_iff_getElem.mp h
  refine ⟨i, hi, ?_⟩
  rw [List.getD_eq_getElem?_getD, List.getElem?_eq_getElem hi]
  exact e
theorem getD_inj {l : List Nat} (h : l.Nodup) {i j : Nat} (hi : i < l.length) (hj : j < l.length) (e : l.getD i 0 = l.getD j 0) : i = j := by
  have h1 := getD_some hi
  have h2 := getD_some hj
  rw [e, ← h2] at h1
  exact (List.getElem?_inj hi h).mp h1
theorem nodup_take_not {l : List Nat} (h : l.Nodup) {i : Nat} (hi : i < l.length) : l.getD i 0 ∉ l.take i := by
  have h3 : (l.take (i + 1)).Nodup := h.sublist (List.take_sublist _ _)
  rw [List.take_add_one, getD_some hi] at h3
  intro hc
  exact (List.nodup_append.mp h3).2.2 _ hc _ (List.mem_singleton.mpr rfl) rfl
theorem idx_lt {l : List Nat} {x : Nat} (h : x ∈ l) : l.idxOf x < l.length := List.idxOf_lt_length_of_mem h
theorem idx_get {l : List Nat} {x : Nat} (h : x ∈ l) : l.getD (l.idxOf x) 0 = x := by
  have h1 := idx_lt h
  rw [List.getD_eq_getElem?_getD, List.getElem?_eq_getElem h1]
  exact List.getElem_idxOf h1
theorem idx_of {l : List Nat} (h : l.Nodup) {i : Nat} (hi : i < l.length) : l.idxOf (l.getD i 0) = i := by
  have hm := getD_mem hi
  exact getD_inj h (idx_lt hm) hi (idx_get hm)
theorem getD_pre {l m : List Nat} {i : Nat} (hi : i < l.length) : (l ++ m).getD i 0 = l.getD i 0 := by
  rw [List.getD_eq_getElem?_getD, List.getElem?_append_left hi, ← List.getD_eq_getElem?_getD]
/-- the boats below m whose number is v, as knots -/
def kidsTo (ts : List Nat) (v m : Nat) : List Nat := ((List.range m).filter fun k => decide (ts.getD k 0 = v)).map (· + 1)
def kids (ts : List Nat) (v : Nat) : List Nat := kidsTo ts v ts.length
theorem kidsTo_succ (ts : List Nat) (v m : Nat) : kidsTo ts v (m + 1) = kidsTo ts v m ++ if ts.getD m 0 = v then [m + 1] else [] := by
  unfold kidsTo
  rw [List.range_succ, List.filter_append, List.map_append]
  by_cases h : ts.getD m 0 = v
  · rw [if_pos h, List.filter_cons, if_pos (decide_eq_true h)]
    rfl
  · rw [if_neg h, List.filter_cons, if_neg (by rw [decide_eq_false h]; decide)]
    rfl
theorem mem_kids {ts : List Nat} {v x : Nat} : x ∈ kids ts v ↔ ∃ k, k < ts.length ∧ x = k + 1 ∧ ts.getD k 0 = v := by
  unfold kids kidsTo
  rw [List.mem_map]
  constructor
  · rintro ⟨k, hk, e⟩
    rw [List.mem_filter, List.mem_range, decide_eq_true_eq] at hk
    exact ⟨k, hk.1, e.symm, hk.2⟩
  · rintro ⟨k, h1, h2, h3⟩
    exact ⟨k, List.mem_filter.mpr ⟨List.mem_range.mpr h1, decide_eq_true h3⟩, h2.symm⟩
theorem kids_nodup (ts : List Nat) (v : Nat) : (kids ts v).Nodup := by
  unfold kids kidsTo
  refine List.Pairwise.map _ ?_ ((List.nodup_range).sublist List.filter_sublist)
  intro x y h e
  exact h (Nat.succ.inj e)
theorem kids_len (ts : List Nat) (v : Nat) : (kids ts v).length = cAt ts v := by
  unfold kids kidsTo cAt
  rw [List.length_map, ← List.countP_eq_length_filter]
  have key : ∀ l : List Nat, (List.range l.length).countP (fun k => decide (l.getD k 0 = v)) = l.countP fun w => decide (w = v) := by
    intro l
    refine snocInd (P := fun l => (List.range l.length).countP (fun k => decide (l.getD k 0 = v)) = l.countP fun w => decide (w = v)) rfl fun l x ih => ?_
    rw [List.length_append, List.length_singleton, List.range_succ, List.countP_append, List.countP_append, List.countP_singleton, List.countP_singleton]
    have e1 : (List.range l.length).countP (fun k => decide ((l ++ [x]).getD k 0 = v)) = (List.range l.length).countP (fun k => decide (l.getD k 0 = v)) := List.countP_congr fun k hk => by
      rw [getD_pre (List.mem_range.mp hk)]
    have e2 : (l ++ [x]).getD l.length 0 = x := by
      rw [List.getD_eq_getElem?_getD, List.getElem?_append_right (Nat.le_refl _), Nat.sub_self]
      rfl
    rw [e1, ih, e2]
  exact key ts
/-! the line that wishes tell -/
def lineW (ws : List Nat) : Nat → List Nat
  | 0 => [0]
  | p + 1 => lineW ws p ++ kids ws p
theorem mem_lineW {ws : List Nat} {x : Nat} : ∀ {p : Nat}, x ∈ lineW ws p ↔ x = 0 ∨ ∃ k, k < ws.length ∧ x = k + 1 ∧ ws.getD k 0 < p
  | 0 => by
    show x ∈ [0] ↔ _
    rw [List.mem_singleton]
    constructor
    · exact fun h => .inl h
    · rintro (h | ⟨k, _, _, h⟩)
      · exact h
      · omega
  | p + 1 => by
    show x ∈ lineW ws p ++ kids ws p ↔ _
    rw [List.mem_append, mem_lineW, mem_kids]
    constructor
    · rintro ((h | ⟨k, h1, h2, h3⟩) | ⟨k, h1, h2, h3⟩)
      · exact .inl h
      · exact .inr ⟨k, h1, h2, by omega⟩
      · exact .inr ⟨k, h1, h2, by omega⟩
    · rintro (h | ⟨k, h1, h2, h3⟩)
      · exact .inl (.inl h)
      · by_cases e : ws.getD k 0 = p
        · exact .inr ⟨k, h1, h2, e⟩
        · exact .inl (.inr ⟨k, h1, h2, by omega⟩)
theorem lineW_nodup (ws : List Nat) : ∀ p, (lineW ws p).Nodup
  | 0 => by show [0].Nodup; simp
  | p + 1 => by
    show (lineW ws p ++ kids ws p).Nodup
    refine List.nodup_append.mpr ⟨lineW_nodup ws p, kids_nodup ws p, fun x hx y hy e => ?_⟩
    rw [e] at hx
    obtain ⟨k, h1, h2, h3⟩ := mem_kids.mp hy
    rcases mem_lineW.mp hx with h | ⟨k', h1', h2', h3'⟩
    · omega
    · have : k = k' := by omega
      rw [this] at h3
      omega
theorem lineW_len {ws : List Nat} : ∀ p, (lineW ws p).length + cnt ws p = 1 + ws.length
  | 0 => by
    show 1 + cnt ws 0 = _
    unfold cnt
    rw [List.countP_eq_length.mpr (fun w _ => decide_eq_true (Nat.zero_le w))]
  | p + 1 => by
    have ih := lineW_len (ws := ws) p
    show (lineW ws p ++ kids ws p).length + cnt ws (p + 1) = _
    rw [List.length_append, kids_len, ← ih, cnt_succ ws p]
    omega
theorem lineW_pre {ws : List Nat} {p i : Nat} (hi : i < (lineW ws p).length) : ∀ q, p ≤ q → i < (lineW ws q).length ∧ (lineW ws q).getD i 0 = (lineW ws p).getD i 0
  | 0, h => by
    have : p = 0 := by omega
    rw [this] at hi ⊢
    exact ⟨hi, rfl⟩
  | q + 1, h => by
    by_cases e : p = q + 1
    · rw [← e]
      exact ⟨hi, rfl⟩
    · obtain ⟨h1, h2⟩ := lineW_pre hi q (by omega)
      refine ⟨?_, ?_⟩
      · show _ < (lineW ws q ++ kids ws q).length
        rw [List.length_append]
        omega
      · show (lineW ws q ++ kids ws q).getD i 0 = _
        rw [getD_pre h1, h2]
/-- a row that moors whole -/
structure WRow (ws : List Nat) : Prop where
  lo : 1 ≤ ws.length
  hi : ws.length ≤ 40
  lt : ∀ w ∈ ws, w < ws.length
  wh : ∀ p, p < ws.length → cnt ws p ≤ ws.length - p
theorem WRow.row {ws : List Nat} (h : WRow ws) : Row ws.length ws := ⟨h.lo, h.hi, Nat.le_refl _, h.lt⟩
theorem WRow.line_lt {ws : List Nat} (h : WRow ws) {p : Nat} (hp : p ≤ ws.length) : p < (lineW ws p).length := by
  have h1 := lineW_len (ws := ws) p
  by_cases e : p = ws.length
  · have h2 := cnt_top h.lt
    rw [e] at h1 ⊢
    omega
  · have h2 := h.wh p (by omega)
    omega
def lineE (ws : List Nat) : List Nat := lineW ws ws.length
theorem WRow.line_at {ws : List Nat} (h : WRow ws) {p : Nat} (hp : p ≤ ws.length) : (lineW ws p).getD p 0 = (lineE ws).getD p 0 := ((lineW_pre (h.line_lt hp) ws.length hp).2).symm
theorem WRow.lineE_len {ws : List Nat} (h : WRow ws) : (lineE ws).length = ws.length + 1 := by
  have h1 := lineW_len (ws := ws) ws.length
  have h2 := cnt_top h.lt
  unfold lineE
  omega
/-- the tree that a row tells -/
def treeW (ws : List Nat) : List Nat := ws.map fun w => (lineE ws).getD w 0
theorem treeW_len (ws : List Nat) : (treeW ws).length = ws.length := List.length_map ..
theorem treeW_at {ws : List Nat} {b : Nat} (hb : b < ws.length) : (treeW ws).getD b 0 = (lineE ws).getD (ws.getD b 0) 0 := by
  unfold treeW
  rw [List.getD_eq_getElem?_getD, List.getElem?_map, getD_some hb]
  rfl
/-! trees -/
structure Tree (ts : List Nat) : Prop where
  lo : 1 ≤ ts.length
  hi : ts.length ≤ 39
  le : ∀ t ∈ ts, t ≤ ts.length
  rk : ∃ r : Nat → Nat, r 0 = 0 ∧ ∀ k, k < ts.length → r (ts.getD k 0) < r (k + 1)
def lineT (ts : List Nat) : Nat → List Nat
  | 0 => [0]
  | p + 1 => lineT ts p ++ kids ts ((lineT ts p).getD p 0)
structure Lined (ts : List Nat) (p : Nat) : Prop where
  nd : (lineT ts p).Nodup
  ge : p ≤ (lineT ts p).length
  mem : ∀ x, x ∈ lineT ts p ↔ x = 0 ∨ ∃ k, k < ts.length ∧ x = k + 1 ∧ ts.getD k 0 ∈ (lineT ts p).take p
theorem Lined.lt {ts : List Nat} {p : Nat} (T : Tree ts) (h : Lined ts p) (hp : p ≤ ts.length) : p < (lineT ts p).length := by
  by_cases c : p < (lineT ts p).length
  · exact c
  · exfalso
    have e : (lineT ts p).length = p := by
      have := h.ge
      omega
    have ht : (lineT ts p).take p = lineT ts p := by
      exact List.take_of_length_le (by omega)
    obtain ⟨r, r0, hr⟩ := T.rk
    have all : ∀ m x, x ≤ ts.length → r x ≤ m → x ∈ lineT ts p := by
      intro m
      induction m with
      | zero =>
        intro x hx hrx
        cases x with
        | zero => exact (h.mem 0).mpr (.inl rfl)
        | succ k =>
          have := hr k (by omega)
          omega
      | succ m ih =>
        intro x hx hrx
        cases x with
        | zero => exact (h.mem 0).mpr (.inl rfl)
        | succ k =>
          have h1 := hr k (by omega)
          refine (h.mem _).mpr (.inr ⟨k, by omega, rfl, ?_⟩)
          rw [ht]
          exact ih _ (T.le _ (getD_mem (by omega))) (by omega)
    have h3 := nodup_len (l := List.range (ts.length + 1)) (m := lineT ts p) List.nodup_range fun x hx => all _ x (by have := List.mem_range.mp hx; omega) (Nat.le_refl _)
    rw [List.length_range] at h3
    omega
theorem lined {ts : List Nat} (T : Tree ts) : ∀ p, p ≤ ts.length + 1 → Lined ts p
  | 0, _ => ⟨by show [0].Nodup; simp, Nat.zero_le _, fun x => by
      show x ∈ [0] ↔ _
      rw [List.mem_singleton]
      constructor
      · exact fun h => .inl h
      · rintro (h | ⟨k, _, _, h⟩)
        · exact h
        · cases h⟩
  | p + 1, hp => by
    have J := lined T p (by omega)
    have hlt := J.lt T (by omega)
    have et : (lineT ts (p + 1)).take (p + 1) = (lineT ts p).take p ++ [(lineT ts p).getD p 0] := by
      show (lineT ts p ++ kids ts ((lineT ts p).getD p 0)).take (p + 1) = _
      rw [List.take_append_of_le_length (by omega), List.take_add_one, getD_some hlt]
      rfl
    refine ⟨?_, ?_, fun x => ?_⟩
    · show (lineT ts p ++ kids ts ((lineT ts p).getD p 0)).Nodup
      refine List.nodup_append.mpr ⟨J.nd, kids_nodup _ _, fun x hx y hy e => ?_⟩
      rw [e] at hx
      obtain ⟨k, h1, h2, h3⟩ := mem_kids.mp hy
      rcases (J.mem y).mp hx with h | ⟨k', h1', h2', h3'⟩
      · omega
      · have ek : k = k' := by omega
        rw [← ek, h3] at h3'
        exact nodup_take_not J.nd hlt h3'
    · show p + 1 ≤ (lineT ts p ++ kids ts ((lineT ts p).getD p 0)).length
      rw [List.length_append]
      omega
    · rw [et]
      show x ∈ lineT ts p ++ kids ts ((lineT ts p).getD p 0) ↔ _
      rw [List.mem_append, J.mem, mem_kids]
      constructor
      · rintro ((h | ⟨k, h1, h2, h3⟩) | ⟨k, h1, h2, h3⟩)
        · exact .inl h
        · exact .inr ⟨k, h1, h2, List.mem_append_left _ h3⟩
        · exact .inr ⟨k, h1, h2, List.mem_append_right _ (List.mem_singleton.mpr h3)⟩
      · rintro (h | ⟨k, h1, h2, h3⟩)
        · exact .inl (.inl h)
        · rcases List.mem_append.mp h3 with h3 | h3
          · exact .inl (.inr ⟨k, h1, h2, h3⟩)
          · exact .inr ⟨k, h1, h2, List.mem_singleton.mp h3⟩
theorem lineT_pre {ts : List Nat} {p i : Nat} (hi : i < (lineT ts p).length) : ∀ q, p ≤ q → i < (lineT ts q).length ∧ (lineT ts q).getD i 0 = (lineT ts p).getD i 0
  | 0, h => by
    have : p = 0 := by omega
    rw [this] at hi ⊢
    exact ⟨hi, rfl⟩
  | q + 1, h => by
    by_cases e : p = q + 1
    · rw [← e]
      exact ⟨hi, rfl⟩
    · obtain ⟨h1, h2⟩ := lineT_pre hi q (by omega)
      refine ⟨?_, ?_⟩
      · show _ < (lineT ts q ++ kids ts _).length
        rw [List.length_append]
        omega
      · show (lineT ts q ++ kids ts _).getD i 0 = _
        rw [getD_pre h1, h2]
def lineF (ts : List Nat) : List Nat := lineT ts ts.length
theorem Tree.line_le {ts : List Nat} (T : Tree ts) {p : Nat} (hp : p ≤ ts.length + 1) : (lineT ts p).length ≤ ts.length + 1 := by
  have J := lined T p hp
  have h3 := nodup_len (l := lineT ts p) (m := List.range (ts.length + 1)) J.nd fun x hx => by
    rw [List.mem_range]
    rcases (J.mem x).mp hx with h | ⟨k, h1, h2, _⟩ <;> omega
  rw [List.length_range] at h3
  exact h3
theorem Tree.line_lt {ts : List Nat} (T : Tree ts) {p : Nat} (hp : p ≤ ts.length) : p < (lineT ts p).length := (lined T p (by omega)).lt T hp
theorem Tree.lineF_len {ts : List Nat} (T : Tree ts) : (lineF ts).length = ts.length + 1 := by
  have h1 := T.line_lt (Nat.le_refl _)
  have h2 := T.line_le (p := ts.length) (by omega)
  unfold lineF
  omega
theorem Tree.line_at {ts : List Nat} (T : Tree ts) {p : Nat} (hp : p ≤ ts.length) : (lineT ts p).getD p 0 = (lineF ts).getD p 0 := ((lineT_pre (T.line_lt hp) ts.length hp).2).symm
theorem Tree.lineF_nd {ts : List Nat} (T : Tree ts) : (lineF ts).Nodup := (lined T _ (by omega)).nd
theorem Tree.all {ts : List Nat} (T : Tree ts) {x : Nat} (hx : x ≤ ts.length) : x ∈ lineF ts := by
  by_cases h : x ∈ lineF ts
  · exact h
  · exfalso
    have h3 := nodup_len (l := x :: lineF ts) (m := List.range (ts.length + 1)) (List.nodup_cons.mpr ⟨h, T.lineF_nd⟩) fun y hy => by
      rw [List.mem_range]
      rcases List.mem_cons.mp hy with e | hy
      · omega
      · rcases ((lined T _ (by omega)).mem y).mp hy with h | ⟨k, h1, h2, _⟩ <;> omega
    rw [List.length_cons, List.length_range, T.lineF_len] at h3
    omega
/-- the last one of the line has no children -/
theorem Tree.line_end {ts : List Nat} (T : Tree ts) : lineT ts (ts.length + 1) = lineF ts := by
  have h1 := T.line_le (p := ts.length + 1) (Nat.le_refl _)
  have h2 := T.lineF_len
  have e : lineT ts (ts.length + 1) = lineF ts ++ kids ts ((lineF ts).getD ts.length 0) := rfl
  rw [e, List.length_append, h2] at h1
  rw [e, List.eq_nil_of_length_eq_zero (l := kids ts ((lineF ts).getD ts.length 0)) (by omega), List.append_nil]
def rowT (ts : List Nat) : List Nat := ts.map fun t => (lineF ts).idxOf t
theorem rowT_len (ts : List Nat) : (rowT ts).length = ts.length := List.length_map ..
theorem rowT_at {ts : List Nat} {b : Nat} (hb : b < ts.length) : (rowT ts).getD b 0 = (lineF ts).idxOf (ts.getD b 0) := by
  unfold rowT
  rw [List.getD_eq_getElem?_getD, List.getElem?_map, getD_some hb]
  rfl
theorem Tree.idx_lt {ts : List Nat} (T : Tree ts) {b : Nat} (hb : b < ts.length) : (lineF ts).idxOf (ts.getD b 0) < ts.length := by
  have J := lined T ts.length (by omega)
  have hb1 := T.all (x := b + 1) (by omega)
  rcases (J.mem (b + 1)).mp hb1 with h | ⟨k, h1, h2, h3⟩
  · omega
  · have ek : k = b := by omega
    rw [ek] at h3
    obtain ⟨i, hi, e⟩ := mem_getD h3
    rw [List.length_take] at hi
    have e2 : ((lineF ts).take ts.length).getD i 0 = (lineF ts).getD i 0 := by
      rw [List.getD_eq_getElem?_getD, List.getElem?_take_of_lt (by omega), ← List.getD_eq_getElem?_getD]
    have e3 : (lineF ts).getD i 0 = ts.getD b 0 := e2.symm.trans e
    rw [← e3, idx_of T.lineF_nd (by rw [T.lineF_len]; omega)]
    omega
theorem Tree.idx_iff {ts : List Nat} (T : Tree ts) {b i : Nat} (hb : b < ts.length) (hi : i ≤ ts.length) : ts.getD b 0 = (lineF ts).getD i 0 ↔ (lineF ts).idxOf (ts.getD b 0) = i := by
  have hm := T.all (T.le _ (getD_mem hb))
  constructor
  · intro e
    rw [e, idx_of T.lineF_nd (by rw [T.lineF_len]; omega)]
  · intro e
    rw [← e, idx_get hm]
/-! there and back -/
theorem kids_congr {f g : List Nat} {u v : Nat} (hl : f.length = g.length) (h : ∀ k, k < f.length → (f.getD k 0 = u ↔ g.getD k 0 = v)) : kids f u = kids g v := by
  unfold kids kidsTo
  rw [← hl]
  congr 1
  refine List.filter_congr fun k hk => ?_
  exact decide_eq_decide.mpr (h k (List.mem_range.mp hk))
theorem lines_row {ws : List Nat} (h : WRow ws) : ∀ p, p ≤ ws.length → lineT (treeW ws) p = lineW ws p
  | 0, _ => rfl
  | p + 1, hp => by
    have ih := lines_row h p (by omega)
    show lineT (treeW ws) p ++ kids (treeW ws) ((lineT (treeW ws) p).getD p 0) = lineW ws p ++ kids ws p
    rw [ih, h.line_at (by omega)]
    congr 1
    refine kids_congr (treeW_len ws) fun k hk => ?_
    rw [treeW_len] at hk
    rw [treeW_at hk]
    have hlt := h.lt _ (getD_mem hk)
    constructor
    · intro e
      exact getD_inj (lineW_nodup ws _) (by rw [show (lineW ws ws.length).length = ws.length + 1 from h.lineE_len]; omega) (by rw [show (lineW ws ws.length).length = ws.length + 1 from h.lineE_len]; omega) e
    · intro e
      rw [e]
theorem tree_row {ws : List Nat} (h : WRow ws) (h39 : ws.length ≤ 39) : Tree (treeW ws) := by
  have hE := h.lineE_len
  have nd : (lineE ws).Nodup := lineW_nodup ws _
  refine ⟨by rw [treeW_len]; exact h.lo, by rw [treeW_len]; exact h39, fun t ht => ?_, fun x => (lineE ws).idxOf x, ?_, fun k hk => ?_⟩
  · unfold treeW at ht
    obtain ⟨w, hw, rfl⟩ := List.mem_map.mp ht
    have hm : (lineE ws).getD w 0 ∈ lineE ws := getD_mem (by have := h.lt w hw; omega)
    rw [treeW_len]
    rcases mem_lineW.mp hm with e | ⟨k, h1, h2, _⟩ <;> omega
  · have h0 : (lineE ws).getD 0 0 = 0 := (lineW_pre (ws := ws) (p := 0) (i := 0) (by show 0 < 1; omega) ws.length (Nat.zero_le _)).2
    show (lineE ws).idxOf 0 = 0
    conv => lhs; rw [← h0]
    rw [h0]
    have := idx_of nd (i := 0) (by omega)
    rw [h0] at this
    exact this
  · rw [treeW_len] at hk
    have hw := h.lt _ (getD_mem hk)
    rw [treeW_at hk]
    show (lineE ws).idxOf ((lineE ws).getD (ws.getD k 0) 0) < (lineE ws).idxOf (k + 1)
    rw [idx_of nd (i := ws.getD k 0) (by omega)]
    have hm : k + 1 ∈ lineE ws := mem_lineW.mpr (.inr ⟨k, hk, rfl, hw⟩)
    have h1 := idx_lt hm
    by_cases c : ws.getD k 0 < (lineE ws).idxOf (k + 1)
    · exact c
    · exfalso
      -- it would stand in the line ahead of its parent's turn
      have h2 := h.line_lt (p := ws.getD k 0) (by omega)
      have h3 := (lineW_pre (i := (lineE ws).idxOf (k + 1)) (p := ws.getD k 0) (ws := ws) (by omega) ws.length (by omega)).2
      have h4 : (lineE ws).getD ((lineE ws).idxOf (k + 1)) 0 = k + 1 := idx_get hm
      have h5 : k + 1 ∈ lineW ws (ws.getD k 0) := by
        have h6 : (lineW ws (ws.getD k 0)).getD ((lineE ws).idxOf (k + 1)) 0 = k + 1 := h3.symm.trans h4
        have h7 : (lineW ws (ws.getD k 0)).getD ((lineE ws).idxOf (k + 1)) 0 ∈ lineW ws (ws.getD k 0) := getD_mem (by omega)
        rw [h6] at h7
        exact h7
      rcases mem_lineW.mp h5 with e | ⟨k', e1, e2, e3⟩
      · omega
      · have : k' = k := by omega
        rw [this] at e3
        omega
theorem back_row {ws : List Nat} (h : WRow ws) : rowT (treeW ws) = ws := by
  have e : lineF (treeW ws) = lineE ws := by
    unfold lineF
    rw [treeW_len]
    exact lines_row h _ (Nat.le_refl _)
  unfold rowT
  rw [e]
  unfold treeW
  rw [List.map_map]
  have : ws.map ((fun t => (lineE ws).idxOf t) ∘ fun w => (lineE ws).getD w 0) = ws.map id := List.map_congr_left fun w hw => idx_of (l := lineE ws) (lineW_nodup ws _) (by have := h.lineE_len; have := h.lt w hw; omega)
  rw [this, List.map_id]
theorem lines_tree {ts : List Nat} (T : Tree ts) : ∀ p, p ≤ ts.length → lineW (rowT ts) p = lineT ts p
  | 0, _ => rfl
  | p + 1, hp => by
    have ih := lines_tree T p (by omega)
    show lineW (rowT ts) p ++ kids (rowT ts) p = lineT ts p ++ kids ts ((lineT ts p).getD p 0)
    rw [ih, T.line_at (by omega)]
    congr 1
    refine kids_congr (rowT_len ts) fun k hk => ?_
    rw [rowT_len] at hk
    rw [rowT_at hk]
    exact (T.idx_iff hk (by omega)).symm
theorem row_tree {ts : List Nat} (T : Tree ts) : WRow (rowT ts) := by
  refine ⟨by rw [rowT_len]; exact T.lo, by rw [rowT_len]; have := T.hi; omega, fun w hw => ?_, fun p hp => ?_⟩
  · obtain ⟨i, hi, rfl⟩ := mem_getD hw
    rw [rowT_len] at hi ⊢
    rw [rowT_at hi]
    exact T.idx_lt hi
  · have h1 := lineW_len (ws := rowT ts) p
    rw [rowT_len] at hp h1 ⊢
    rw [lines_tree T p (by omega)] at h1
    have h2 := T.line_lt (p := p) (by omega)
    omega
theorem back_tree {ts : List Nat} (T : Tree ts) : treeW (rowT ts) = ts := by
  have e : lineE (rowT ts) = lineF ts := by
    unfold lineE
    rw [rowT_len]
    exact lines_tree T _ (Nat.le_refl _)
  unfold treeW
  rw [e]
  unfold rowT
  rw [List.map_map]
  have : ts.map ((fun w => (lineF ts).getD w 0) ∘ fun t => (lineF ts).idxOf t) = ts.map id := List.map_congr_left fun t ht => idx_get (T.all (T.le t ht))
  rw [this, List.map_id]
/-- a rank that no knot has beyond their number: the place in the line -/
theorem Tree.bound {ts : List Nat} (T : Tree ts) : ∃ r : Nat → Nat, r 0 = 0 ∧ ∀ k, k < ts.length → r (k + 1) ≤ ts.length ∧ r (ts.getD k 0) < r (k + 1) := by
  have nd := T.lineF_nd
  have hF := T.lineF_len
  have h0 : (lineF ts).getD 0 0 = 0 := (lineT_pre (ts := ts) (p := 0) (i := 0) (by show 0 < 1; omega) ts.length (Nat.zero_le _)).2
  refine ⟨fun x => (lineF ts).idxOf x, ?_, fun k hk => ?_⟩
  · have := idx_of nd (i := 0) (by omega)
    rw [h0] at this
    exact this
  · have hm := T.all (x := k + 1) (by omega)
    have h1 := Wm.idx_lt hm
    have hp := T.idx_lt hk
    show (lineF ts).idxOf (k + 1) ≤ ts.length ∧ (lineF ts).idxOf (ts.getD k 0) < (lineF ts).idxOf (k + 1)
    refine ⟨by omega, ?_⟩
    by_cases c : (lineF ts).idxOf (ts.getD k 0) < (lineF ts).idxOf (k + 1)
    · exact c
    · exfalso
      have J := lined T ((lineF ts).idxOf (ts.getD k 0)) (by omega)
      have hlt := T.line_lt (p := (lineF ts).idxOf (ts.getD k 0)) (by omega)
      have h3 := (lineT_pre (i := (lineF ts).idxOf (k + 1)) (p := (lineF ts).idxOf (ts.getD k 0)) (ts := ts) (by omega) ts.length (by omega)).2
      have h4 : (lineF ts).getD ((lineF ts).idxOf (k + 1)) 0 = k + 1 := idx_get hm
      have h5 : k + 1 ∈ lineT ts ((lineF ts).idxOf (ts.getD k 0)) := by
        have h6 := h3.symm.trans h4
        have h7 : (lineT ts ((lineF ts).idxOf (ts.getD k 0))).getD ((lineF ts).idxOf (k + 1)) 0 ∈ lineT ts ((lineF ts).idxOf (ts.getD k 0)) := getD_mem (by omega)
        rw [h6] at h7
        exact h7
      rcases (J.mem (k + 1)).mp h5 with e | ⟨k', e1, e2, e3⟩
      · omega
      · have ek : k' = k := by omega
        rw [ek] at e3
        obtain ⟨i, hi, e4⟩ := mem_getD e3
        rw [List.length_take] at hi
        have e5 : ((lineT ts ((lineF ts).idxOf (ts.getD k 0))).take ((lineF ts).idxOf (ts.getD k 0))).getD i 0 = (lineT ts ((lineF ts).idxOf (ts.getD k 0))).getD i 0 := by
          rw [List.getD_eq_getElem?_getD, List.getElem?_take_of_lt (by omega), ← List.getD_eq_getElem?_getD]
        have e6 := (lineT_pre (i := i) (p := (lineF ts).idxOf (ts.getD k 0)) (ts := ts) (by omega) ts.length (by omega)).2
        have e7 : (lineF ts).getD i 0 = ts.getD k 0 := e6.trans (e5.symm.trans e4)
        have e8 := idx_of nd (i := i) (by omega)
        rw [e7] at e8
        omega
/-! knots led upwards -/
def upT (ts : List Nat) : Nat → Nat
  | 0 => 0
  | k + 1 => ts.getD k 0
def upI (ts : List Nat) : Nat → Nat → Nat
  | 0, x => x
  | j + 1, x => upT ts (upI ts j x)
theorem upI_front (ts : List Nat) (x : Nat) : ∀ j, upI ts (j + 1) x = upI ts j (upT ts x)
  | 0 => rfl
  | j + 1 => by
    show upT ts (upI ts (j + 1) x) = upT ts (upI ts j (upT ts x))
    rw [upI_front ts x j]
/-- all knots led to the root: a tree -/
theorem tree_led {ts : List Nat} (h1 : 1 ≤ ts.length) (h2 : ts.length ≤ 39) (h3 : ∀ t ∈ ts, t ≤ ts.length) {m : Nat} (h : ∀ k, k < ts.length → ∃ j, j ≤ m ∧ upI ts j (k + 1) = 0) : Tree ts := by
  refine ⟨h1, h2, h3, fun x => ((List.range (m + 1)).find? fun j => decide (upI ts j x = 0)).getD 0, ?_, fun k hk => ?_⟩
  · show ((List.range (m + 1)).find? fun j => decide (upI ts j 0 = 0)).getD 0 = 0
    rw [List.range_succ_eq_map]
    rfl
  · obtain ⟨j0, hj0, e0⟩ := h k hk
    show ((List.range (m + 1)).find? fun j => decide (upI ts j (ts.getD k 0) = 0)).getD 0 < ((List.range (m + 1)).find? fun j => decide (upI ts j (k + 1) = 0)).getD 0
    cases e : (List.range (m + 1)).find? fun j => decide (upI ts j (k + 1) = 0) with
    | none =>
      have := List.find?_eq_none.mp e j0 (List.mem_range.mpr (by omega))
      simp only [decide_eq_true_eq] at this
      exact absurd e0 this
    | some j =>
      have hj : upI ts j (k + 1) = 0 := of_decide_eq_true (p := upI ts j (k + 1) = 0) (List.find?_some (p := fun j => decide (upI ts j (k + 1) = 0)) e)
      have hjm := List.mem_range.mp (List.mem_of_find?_eq_some e)
      cases j with
      | zero => exact absurd hj (by show ¬ k + 1 = 0; omega)
      | succ j =>
        rw [upI_front] at hj
        have hj2 : upI ts j (ts.getD k 0) = 0 := hj
        cases e2 : (List.range (m + 1)).find? fun j => decide (upI ts j (ts.getD k 0) = 0) with
        | none =>
          show 0 < j + 1
          omega
        | some i =>
          obtain ⟨_, a, ha, ea, hlt⟩ := List.find?_eq_some_iff_getElem.mp e2
          rw [List.getElem_range] at ea
          show i < j + 1
          by_cases c : i < j + 1
          · exact c
          · exfalso
            have := hlt j (by omega)
            rw [List.getElem_range, decide_eq_true hj2] at this
            cases this
end Wm

/-! ### what the loops over places and boats leave -/
namespace Wm
open PySem PySem.Spec PyProof.Rows L2 Evl
/-- the parents behind i places and j boats of the next one, z where none was stored -/
def parV (ws : List Nat) (z : V) (i j : Nat) : List V := (List.range ws.length).map fun b => if ws.getD b 0 < i ∨ (ws.getD b 0 = i ∧ b < j) then V.int ((lineE ws).getD (ws.getD b 0) 0 : Int) else z
theorem parV_len (ws : List Nat) (z : V) (i j : Nat) : (parV ws z i j).length = ws.length := by
  unfold parV
  rw [List.length_map, List.length_range]
theorem parV_init (ws : List Nat) (z : V) : (((vn ws).filter fun _ => true).map fun _ => z) = parV ws z 0 0 := by
  rw [List.filter_eq_self.mpr fun _ _ => rfl]
  refine List.ext_getElem? fun b => ?_
  unfold parV
  rw [List.getElem?_map, List.getElem?_map]
  by_cases hb : b < ws.length
  · rw [List.getElem?_range hb, vn_get (getD_some hb)]
    show some z = some (if ws.getD b 0 < 0 ∨ (ws.getD b 0 = 0 ∧ b < 0) then _ else z)
    rw [if_neg (by omega)]
  · rw [List.getElem?_eq_none (by rw [vn_len]; omega), List.getElem?_eq_none (by rw [List.length_range]; omega)]
    rfl
theorem parV_set {ws : List Nat} {z : V} {i j : Nat} (hj : j < ws.length) (h : ws.getD j 0 = i) : (parV ws z i j).set j (.int ((lineE ws).getD i 0 : Int)) = parV ws z i (j + 1) := by
  refine List.ext_getElem? fun b => ?_
  rw [List.getElem?_set, parV_len]
  unfold parV
  rw [List.getElem?_map, List.getElem?_map]
  by_cases hb : b < ws.length
  · rw [List.getElem?_range hb]
    by_cases e : j = b
    · rw [if_pos e, if_pos hj, ← e]
      show _ = some (if ws.getD j 0 < i ∨ (ws.getD j 0 = i ∧ j < j + 1) then _ else z)
      rw [if_pos (by omega), h]
    · rw [if_neg e]
      show some (if ws.getD b 0 < i ∨ (ws.getD b 0 = i ∧ b < j) then _ else z) = some (if ws.getD b 0 < i ∨ (ws.getD b 0 = i ∧ b < j + 1) then _ else z)
      by_cases c : ws.getD b 0 < i ∨ (ws.getD b 0 = i ∧ b < j)
      · rw [if_pos c, if_pos (by omega)]
      · rw [if_neg c, if_neg (by omega)]
  · rw [if_neg (by omega), List.getElem?_eq_none (by rw [List.length_range]; omega)]
    rfl
theorem parV_skip {ws : List Nat} {z : V} {i j : Nat} (h : ws.getD j 0 ≠ i) : parV ws z i (j + 1) = parV ws z i j := by
  unfold parV
  refine List.map_congr_left fun b _ => ?_
  by_cases e : j = b
  · subst e
    by_cases c : ws.getD j 0 < i
    · rw [if_pos (.inl c), if_pos (.inl c)]
    · rw [if_neg (by omega), if_neg (by omega)]
  · by_cases c : ws.getD b 0 < i ∨ (ws.getD b 0 = i ∧ b < j)
    · rw [if_pos c, if_pos (by omega)]
    · rw [if_neg c, if_neg (by omega)]
theorem parV_next {ws : List Nat} {z : V} {i : Nat} : parV ws z i ws.length = parV ws z (i + 1) 0 := by
  unfold parV
  refine List.map_congr_left fun b hb => ?_
  have := List.mem_range.mp hb
  by_cases c : ws.getD b 0 < i + 1
  · rw [if_pos (by omega), if_pos (.inl c)]
  · rw [if_neg (by omega), if_neg (by omega)]
theorem parV_end {ws : List Nat} {z : V} (h : ∀ w ∈ ws, w < ws.length) : parV ws z ws.length 0 = vn (treeW ws) := by
  refine List.ext_getElem? fun b => ?_
  unfold parV
  rw [List.getElem?_map]
  by_cases hb : b < ws.length
  · rw [List.getElem?_range hb, vn_get (getD_some (by rw [treeW_len]; exact hb)), treeW_at hb]
    show some (if ws.getD b 0 < ws.length ∨ (ws.getD b 0 = ws.length ∧ b < 0) then _ else z) = _
    rw [if_pos (.inl (h _ (getD_mem hb)))]
  · rw [List.getElem?_eq_none (by rw [List.length_range]; omega), List.getElem?_eq_none (by rw [vn_len, treeW_len]; omega)]
    rfl
/-- the wishes behind i places and j boats of the next one -/
def wisV (ts : List Nat) (i j : Nat) : List V := (List.range ts.length).map fun b => if (lineF ts).idxOf (ts.getD b 0) < i ∨ ((lineF ts).idxOf (ts.getD b 0) = i ∧ b < j) then V.int ((lineF ts).idxOf (ts.getD b 0) : Int) else V.int 0
theorem wisV_len (ts : List Nat) (i j : Nat) : (wisV ts i j).length = ts.length := by
  unfold wisV
  rw [List.length_map, List.length_range]
theorem wisV_init (ts : List Nat) : (((vn ts).filter fun _ => true).map fun _ => V.int 0) = wisV ts 0 0 := by
  rw [List.filter_eq_self.mpr fun _ _ => rfl]
  refine List.ext_getElem? fun b => ?_
  unfold wisV
  rw [List.getElem?_map, List.getElem?_map]
  by_cases hb : b < ts.length
  · rw [List.getElem?_range hb, vn_get (getD_some hb)]
    show some (V.int 0) = some (if (lineF ts).idxOf (ts.getD b 0) < 0 ∨ ((lineF ts).idxOf (ts.getD b 0) = 0 ∧ b < 0) then _ else V.int 0)
    rw [if_neg (by omega)]
  · rw [List.getElem?_eq_none (by rw [vn_len]; omega), List.getElem?_eq_none (by rw [List.length_range]; omega)]
    rfl
theorem wisV_set {ts : List Nat} {i j : Nat} (hj : j < ts.length) (h : (lineF ts).idxOf (ts.getD j 0) = i) : (wisV ts i j).set j (.int (i : Int)) = wisV ts i (j + 1) := by
  refine List.ext_getElem? fun b => ?_
  rw [List.getElem?_set, wisV_len]
  unfold wisV
  rw [List.getElem?_map, List.getElem?_map]
  by_cases hb : b < ts.length
  · rw [List.getElem?_range hb]
    by_cases e : j = b
    · rw [if_pos e, if_pos hj, ← e]
      show _ = some (if (lineF ts).idxOf (ts.getD j 0) < i ∨ ((lineF ts).idxOf (ts.getD j 0) = i ∧ j < j + 1) then _ else V.int 0)
      rw [if_pos (by omega), h]
    · rw [if_neg e]
      show some (if (lineF ts).idxOf (ts.getD b 0) < i ∨ ((lineF ts).idxOf (ts.getD b 0) = i ∧ b < j) then _ else V.int 0) = some (if (lineF ts).idxOf (ts.getD b 0) < i ∨ ((lineF ts).idxOf (ts.getD b 0) = i ∧ b < j + 1) then _ else V.int 0)
      by_cases c : (lineF ts).idxOf (ts.getD b 0) < i ∨ ((lineF ts).idxOf (ts.getD b 0) = i ∧ b < j)
      · rw [if_pos c, if_pos (by omega)]
      · rw [if_neg c, if_neg (by omega)]
  · rw [if_neg (by omega), List.getElem?_eq_none (by rw [List.length_range]; omega)]
    rfl
theorem wisV_skip {ts : List Nat} {i j : Nat} (h : (lineF ts).idxOf (ts.getD j 0) ≠ i) : wisV ts i (j + 1) = wisV ts i j := by
  unfold wisV
  refine List.map_congr_left fun b _ => ?_
  by_cases e : j = b
  · subst e
    by_cases c : (lineF ts).idxOf (ts.getD j 0) < i
    · rw [if_pos (.inl c), if_pos (.inl c)]
    · rw [if_neg (by omega), if_neg (by omega)]
  · by_cases c : (lineF ts).idxOf (ts.getD b 0) < i ∨ ((lineF ts).idxOf (ts.getD b 0) = i ∧ b < j)
    · rw [if_pos c, if_pos (by omega)]
    · rw [if_neg c, if_neg (by omega)]
theorem wisV_next {ts : List Nat} {i : Nat} : wisV ts i ts.length = wisV ts (i + 1) 0 := by
  unfold wisV
  refine List.map_congr_left fun b hb => ?_
  have := List.mem_range.mp hb
  by_cases c : (lineF ts).idxOf (ts.getD b 0) < i + 1
  · rw [if_pos (by omega), if_pos (.inl c)]
  · rw [if_neg (by omega), if_neg (by omega)]
theorem wisV_end {ts : List Nat} (T : Tree ts) : wisV ts ts.length 0 = vn (rowT ts) := by
  refine List.ext_getElem? fun b => ?_
  unfold wisV
  rw [List.getElem?_map]
  by_cases hb : b < ts.length
  · rw [List.getElem?_range hb, vn_get (getD_some (by rw [rowT_len]; exact hb)), rowT_at hb]
    show some (if (lineF ts).idxOf (ts.getD b 0) < ts.length ∨ ((lineF ts).idxOf (ts.getD b 0) = ts.length ∧ b < 0) then _ else V.int 0) = _
    rw [if_pos (.inl (T.idx_lt hb))]
  · rw [List.getElem?_eq_none (by rw [List.length_range]; omega), List.getElem?_eq_none (by rw [vn_len, rowT_len]; omega)]
    rfl
theorem kidsTo_zero (ts : List Nat) (v : Nat) : kidsTo ts v 0 = [] := rfl
theorem kidsTo_len (ts : List Nat) (v m : Nat) : (kidsTo ts v m).length ≤ m := by
  unfold kidsTo
  rw [List.length_map]
  exact Nat.le_trans (List.length_filter_le _ _) (by rw [List.length_range]; exact Nat.le_refl _)
end Wm

/-! ### lists of ints that are naturals -/
namespace Wm
theorem nat_list {ns : List Int} (h : ∀ w ∈ ns, 0 ≤ w) : ∃ ws : List Nat, ns = ws.map Int.ofNat := by
  refine ⟨ns.map Int.toNat, ?_⟩
  rw [List.map_map]
  have e : ns.map (Int.ofNat ∘ Int.toNat) = ns.map id := List.map_congr_left fun w hw => Int.toNat_of_nonneg (h w hw)
  rw [e, List.map_id]
theorem map_nat {ws us : List Nat} (h : ws.map Int.ofNat = us.map Int.ofNat) : ws = us := (List.map_inj_right (fun x y h => Int.ofNat.inj h)).mp h
theorem nat_mem {ws : List Nat} {P : Int → Prop} (h : ∀ w ∈ ws.map Int.ofNat, P w) {x : Nat} (hx : x ∈ ws) : P (x : Int) := h _ (List.mem_map.mpr ⟨x, hx, rfl⟩)
theorem set_mem {zs : List Int} {j : Nat} {b : Int} (hj : j < zs.length) : b ∈ zs.set j b := List.mem_iff_getElem?.mpr ⟨j, by rw [List.getElem?_set_self hj]⟩
theorem map_set {ts : List Nat} {j x : Nat} : (ts.map Int.ofNat).set j (Int.ofNat x) = (ts.set j x).map Int.ofNat := by rw [List.map_set]
/-- what a list is like that makes a tree, a row that moors whole -/
def GoodT (ns : List Int) : Prop := ∃ ts : List Nat, ns = ts.map Int.ofNat ∧ Tree ts
def GoodR (m : Int) (ns : List Int) : Prop := ∃ ws : List Nat, ns = ws.map Int.ofNat ∧ WRow ws ∧ (ws.length : Int) ≤ m
theorem no_len {ns : List Int} (h : ns.length < 1 ∨ 39 < ns.length) : ¬ GoodT ns := by
  rintro ⟨ts, rfl, hT⟩
  have h1 := hT.lo
  have h2 := hT.hi
  rw [List.length_map] at h
  omega
theorem no_knot {ns : List Int} {b : Int} (hb : b ∈ ns) (h : b < 0 ∨ (ns.length : Int) < b) : ¬ GoodT ns := by
  rintro ⟨ts, rfl, hT⟩
  obtain ⟨t, ht, rfl⟩ := List.mem_map.mp hb
  have := hT.le t ht
  rw [List.length_map] at h
  have e : Int.ofNat t = (t : Int) := rfl
  omega
theorem no_loop {ts : List Nat} {k : Nat} (hk : k < ts.length) : ¬ GoodT ((ts.set k (k + 1)).map Int.ofNat) := by
  rintro ⟨us, e, hT⟩
  have e2 := map_nat e
  obtain ⟨r, r0, hr⟩ := hT.rk
  rw [← e2] at hr
  have := hr k (by rw [List.length_set]; exact hk)
  have e3 : (ts.set k (k + 1)).getD k 0 = k + 1 := by
    rw [List.getD_eq_getElem?_getD, List.getElem?_set_self hk]
    rfl
  rw [e3] at this
  omega
theorem no_pair {ts : List Nat} {j k : Nat} (hj : j < ts.length) (hk : k < ts.length) (hne : j ≠ k) : ¬ GoodT (((ts.set j (k + 1)).set k (j + 1)).map Int.ofNat) := by
  rintro ⟨us, e, hT⟩
  have e2 := map_nat e
  obtain ⟨r, r0, hr⟩ := hT.rk
  rw [← e2] at hr
  have h1 := hr k (by rw [List.length_set, List.length_set]; exact hk)
  have h2 := hr j (by rw [List.length_set, List.length_set]; exact hj)
  have e3 : ((ts.set j (k + 1)).set k (j + 1)).getD k 0 = j + 1 := by
    rw [List.getD_eq_getElem?_getD, List.getElem?_set_self (by rw [List.length_set]; exact hk)]
    rfl
  have e4 : ((ts.set j (k + 1)).set k (j + 1)).getD j 0 = k + 1 := by
    rw [List.getD_eq_getElem?_getD, List.getElem?_set_ne (Ne.symm hne), List.getElem?_set_self hj]
    rfl
  rw [e3] at h1
  rw [e4] at h2
  omega
theorem no_rlen {m : Int} {ns : List Int} (h : ns.length < 1 ∨ m < (ns.length : Int)) : ¬ GoodR m ns := by
  rintro ⟨ws, rfl, hW, hm⟩
  have h1 := hW.lo
  rw [List.length_map] at h
  omega
theorem no_wish {m : Int} {ns : List Int} {b : Int} (hb : b ∈ ns) (h : b < 0 ∨ (ns.length : Int) ≤ b) : ¬ GoodR m ns := by
  rintro ⟨ws, rfl, hW, hm⟩
  obtain ⟨t, ht, rfl⟩ := List.mem_map.mp hb
  have := hW.lt t ht
  rw [List.length_map] at h
  have e : Int.ofNat t = (t : Int) := rfl
  omega
/-- all at the last place -/
theorem no_last {m : Int} {n : Nat} (hn : 1 < n) : ¬ GoodR m ((List.replicate n (n - 1)).map Int.ofNat) := by
  rintro ⟨ws, e, hW, hm⟩
  have e2 := map_nat e
  have h := hW.wh (n - 1) (by rw [← e2, List.length_replicate]; omega)
  rw [← e2, List.length_replicate] at h
  have h3 : cnt (List.replicate n (n - 1)) (n - 1) = n := by
    unfold cnt
    rw [List.countP_replicate]
    simp
  omega
theorem last_good {m : Int} (h : 1 ≤ m) : GoodR m ((List.replicate 1 (1 - 1)).map Int.ofNat) := ⟨[0], rfl, ⟨by decide, by decide, by decide, fun p hp => by
  have : p = 0 := by
    have : p < 1 := hp
    omega
  rw [this]
  decide⟩, by
  show (1 : Int) ≤ m
  exact h⟩
/-- each wish no greater than its boat's number -/
theorem steps_whole {n : Nat} (f : Nat → Nat) (h1 : 1 ≤ n) (h40 : n ≤ 40) (hf : ∀ k, k < n → f k ≤ k) : WRow ((List.range n).map f) := by
  refine ⟨by rw [List.length_map, List.length_range]; exact h1, by rw [List.length_map, List.length_range]; exact h40, fun w hw => ?_, fun p hp => ?_⟩
  · obtain ⟨k, hk, rfl⟩ := List.mem_map.mp hw
    have h2 := List.mem_range.mp hk
    have := hf k h2
    rw [List.length_map, List.length_range]
    omega
  · rw [List.length_map, List.length_range] at hp ⊢
    have key : ∀ m, m ≤ n → cnt ((List.range m).map f) p ≤ m - p := by
      intro m
      induction m with
      | zero => exact fun _ => Nat.zero_le _
      | succ m ih =>
        intro hm
        have i1 := ih (by omega)
        have i2 := hf m (by omega)
        unfold cnt at i1 ⊢
        rw [List.range_succ, List.map_append, List.countP_append, List.map_singleton, List.countP_singleton]
        by_cases c : p ≤ f m
        · rw [if_pos (decide_eq_true c)]
          omega
        · rw [if_neg (by rw [decide_eq_false c]; decide)]
          omega
    exact key n (Nat.le_refl n)
end Wm

namespace Wm
open PySem PySem.Spec PyProof.Rows L2 Evl
def top (i : Nat) : Stmt := PySem.Challenge.pw_wishmoor_k16_refused_trees.main.body.getD i (.Pass ⟨0, 0, 0, 0⟩)
section
variable {P : Program} {w : World} {K : Kf} {mg : Mg} {base : Heap}
abbrev s_l_cell_at : Stmt := top 19
abbrev N_l_cell_at : List Str := ["script", "k"]
theorem sc_l_cell_at : FnScope N_l_cell_at ["script", "k"] (defScope s_l_cell_at) := ⟨rfl, rfl, rfl, by decide +kernel, rfl, by decide +kernel, by decide +kernel⟩
theorem bw_l_cell_at : BindsWell "_law_cell_at" s_l_cell_at ["script", "k"] := fun _ _ _ _ _ _ us hl => match us, hl with | [_, _], _ => rfl

def cellAt (ns : List Int) (z : Int) : Int := if z < ns.length then ns.getD z.toNat 0 else 0
def sp_l_cell_at (K : Kf) : Sp := fun vs H Q _ => ∃ (a : Addr) (ns : List Int) (z : Int), vs = [.ref a, .int z] ∧ SqL K H a (ns.map V.int) ∧ 0 ≤ z ∧ RetV (.int (cellAt ns z)) H Q
theorem sv_cell {K : Kf} {σ : L2.St} {H : Hp} {E : XK} {ta : TA} {a : Addr} {ns : List Int} {z : Int} (h : EvA ta σ H [.ref a, .int z]) (hS : SqL K H a (ns.map V.int)) (hz : 0 ≤ z) : Ev (tCall (sp_l_cell_at K) [] E ta) σ H (.int (cellAt ns z)) :=
  ev_callV h fun H1 e Q q E => ⟨a, ns, z, rfl, ex_l e hS, hz, q⟩
local macro_rules | `(tactic| walk_at "call") => `(tactic| ((with_reducible refine' Wm.sv_cell ?ha ?hb ?hc); (case ha => walk_at "ea"); (case hb => walk_at "sq"); (case hc => omega)))
theorem ok_l_cell_at (D : Def K mg "_law_cell_at" s_l_cell_at) (T : Txt mg)  : Own P w K mg base CX0 1 "_law_cell_at" ["script", "k"] (sp_l_cell_at K) := by
  refine D.calm sc_l_cell_at bw_l_cell_at (fun vs H Q E h => ?_) (fun f cdv A outer s H vs Q E hr h => ?_)
  · obtain ⟨a, ns, z, rfl, _⟩ := h
    rfl
  · obtain ⟨a, ns, z, rfl, hS, hz, kQ⟩ := h
    refine ⟨_, (pss_cons (ps_if (pt_cmpR op_lt (pv 1) (pe_callB cr_len (by rfl) T.len PySem.boot_len (pa_cons (pv 0) pa_nil)) (nomark _))
        (pss_one (ps_ret (pe_ix ix_list (pv 0) (pv 1) (fun _ _ => rfl))))
        pss_nil)
        (pss_one (ps_ret pe_int))), ?_⟩
    try dsimp only [cxOf]
    refine q_when (by walk_at "et") (fun hb H1 e1 => ?_) (fun hb H1 e1 => ?_)
    · have hz2 := of_decide_eq_true hb
      rw [List.length_map] at hz2
      refine s_ret (by walk_at "ev") fun H2 e2 => ?_
      have hk := kQ H2 (by walk_at "ex")
      unfold cellAt at hk
      rw [if_pos hz2] at hk
      exact hk
    · have hz2 := of_decide_eq_false hb
      rw [List.length_map] at hz2
      refine s_ret (by walk_at "ev") fun H2 e2 => ?_
      have hk := kQ H2 (by walk_at "ex")
      unfold cellAt at hk
      rw [if_neg hz2] at hk
      exact hk

abbrev s_l_shuffled : Stmt := top 20
abbrev N_l_shuffled : List Str := ["script", "first", "size", "order", "k", "number"]
theorem sc_l_shuffled : FnScope N_l_shuffled ["script", "first", "size"] (defScope s_l_shuffled) := ⟨rfl, rfl, rfl, by decide +kernel, rfl, by decide +kernel, by decide +kernel⟩
theorem bw_l_shuffled : BindsWell "_law_shuffled" s_l_shuffled ["script", "first", "size"] := fun _ _ _ _ _ _ us hl => match us, hl with | [_, _, _], _ => rfl

def sp_l_shuffled (K : Kf) : Sp := fun vs H Q _ => ∃ (a : Addr) (ns : List Int) (z : Int) (n : Nat), vs = [.ref a, .int z, .int (n : Int)] ∧ SqL K H a (ns.map V.int) ∧ 0 ≤ z ∧ n ≤ 1000 ∧ ∀ l : List Nat, l.Perm (List.range n) → RetL (vn l) H Q
theorem sv_shuffled {K : Kf} {σ : L2.St} {H : Hp} {E : XK} {ta : TA} {a : Addr} {ns : List Int} {z : Int} {n : Nat} (h : EvA ta σ H [.ref a, .int z, .int (n : Int)]) (hS : SqL K H a (ns.map V.int)) (hz : 0 ≤ z) (hn : n ≤ 1000) : EvLP (tCall (sp_l_shuffled K) [] E ta) σ H (fun xs => ∃ l : List Nat, xs = vn l ∧ l.Perm (List.range n)) :=
  lp_call h fun H1 e Q q E => ⟨a, ns, z, n, rfl, ex_l e hS, hz, hn, fun l hl => q _ ⟨l, rfl, hl⟩⟩
theorem ok_l_shuffled (D : Def K mg "_law_shuffled" s_l_shuffled) (T : Txt mg) (O_l_cell_at : Own P w K mg base CX0 1 "_law_cell_at" ["script", "k"] (sp_l_cell_at K)) : Own P w K mg base CX0 2 "_law_shuffled" ["script", "first", "size"] (sp_l_shuffled K) := by
  refine D.calm sc_l_shuffled bw_l_shuffled (fun vs H Q E h => ?_) (fun f cdv A outer s H vs Q E hr h => ?_)
  · obtain ⟨a, ns, z, n, rfl, _⟩ := h
    rfl
  · obtain ⟨a, ns, z, n, rfl, hS, hz, hn, kQ⟩ := h
    have hr_l_cell_at : Room 1 _ := hr.mono (by decide)
    refine ⟨_, (pss_cons (ps_set (i := 3) sc_l_shuffled.nd rfl (Or.inl rfl) (pe_callB cr_sortedPO (by rfl) T.sorted (by decide +kernel) (pa_cons (pe_lc (own := [("k", 4)]) (g := gName 4) rfl sc_l_shuffled.nd (pi_range1 (by rfl) T.range (pa_cons (pv 2) pa_nil)) (blkOk_by (N := N_l_shuffled) (sc := defScope s_l_shuffled) (by decide +kernel)) (fun _ _ _ _ _ => pg_name (i := 4) sc_l_shuffled.nd rfl (.inl rfl)) (fun _ _ _ _ _ => pts_nil) (fun _ _ _ _ _ => (pe_tup (pa_cons (pe_op op_mod (pe_op op_mul (pe_own O_l_cell_at hr_l_cell_at pass0 (pa_cons (pv 0) (pa_cons (pe_op op_add (pv 1) (pe_op op_mod (pv 4) pe_int)) pa_nil))) (pe_op op_add (pv 4) pe_int)) pe_int) (pa_cons (pv 4) pa_nil))))) pa_nil)))
        (pss_one (ps_ret (pe_lc (own := [("number", 5), ("k", 4)]) (g := gTup K 2 (gCons (gName 5) (gCons (gName 4) gNil))) rfl sc_l_shuffled.nd (pi_list (pv 3)) (blkOk_by (N := N_l_shuffled) (sc := defScope s_l_shuffled) (by decide +kernel)) (fun _ _ _ _ _ => (pg_tupK rfl rfl (pgs_cons (pg_name (i := 5) sc_l_shuffled.nd rfl (.inl rfl)) (pgs_cons (pg_name (i := 4) sc_l_shuffled.nd rfl (.inl rfl)) pgs_nil)))) (fun _ _ _ _ _ => pts_nil) (fun _ _ _ _ _ => (pv 4)))))), ?_⟩
    try dsimp only [cxOf]
    refine q_sorted_pairs (n := n) (f := fun i => cellAt ns (z + (i : Int) % 45) * ((i : Int) + 1) % 101) (er_lcR1 (mk := HO.tup) (n := (n : Int)) (fun i => [V.int (cellAt ns (z + (i : Int) % 45) * ((i : Int) + 1) % 101), V.int (i : Int)]) (by walk_at "ea") (by omega) (fun _ => rfl) fun i H1 e1 hi => ?_) fun p zs H2 np e2 hp hm hperm => ?_
    · have hS1 := ex_l e1 hS
      exact eu_tup (ea_cons (ev_op (ev_op (sv_cell (by walk_at "ea") hS1 (by omega)) (by walk_at "ev") (rv_I (by exact Or.inr ⟨by omega, by omega⟩))) ev_c (rv_I (by walk_at "side"))) (by walk_at "ea")) (Nat.le_of_ble_eq_true rfl)
    have hzl : zs.length = n := by
      have := hperm.length_eq
      rw [List.length_map, List.length_range] at this
      exact this
    refine s_retL (el_lcPairs (K := K) (zs := zs) (fun x => V.int (pairAt H2 x).2) (by walk_at "ev") (sq_of hp) (by omega) (fun x hx => ?_) (fun _ _ => rfl) fun x H3 e3 hx => by walk_at "ev") fun l H3 nl e3 hl => ?_
    · obtain ⟨q, i, h1, h2, h3⟩ := hm x hx
      exact ⟨q, _, _, h1, h3⟩
    have e4 : zs.map (fun x => V.int (pairAt H2 x).2) = vn (zs.map fun x => (pairAt H2 x).2.toNat) := by
      unfold vn
      rw [List.map_map]
      refine List.map_congr_left fun x hx => ?_
      obtain ⟨q, i, rfl, h2, h3⟩ := hm x hx
      show V.int (pairAt H2 (.ref q)).2 = V.int ((pairAt H2 (.ref q)).2.toNat : Int)
      rw [pairAt_is h3, Int.toNat_natCast]
    rw [e4] at hl
    exact kQ _ hperm l H3 (fresh_back e2 nl) (e2.trans e3) hl

abbrev s_l_chain : Stmt := top 22
abbrev N_l_chain : List Str := ["script", "size", "order", "parents", "at", "k"]
theorem sc_l_chain : FnScope N_l_chain ["script", "size"] (defScope s_l_chain) := ⟨rfl, rfl, rfl, by decide +kernel, rfl, by decide +kernel, by decide +kernel⟩
theorem bw_l_chain : BindsWell "_law_chain" s_l_chain ["script", "size"] := fun _ _ _ _ _ _ us hl => match us, hl with | [_, _], _ => rfl

/-- order and parents of a drawn chain -/
structure Chain (size : Nat) (l ts : List Nat) : Prop where
  perm : l.Perm (List.range size)
  len : ts.length = size
  dr : ∀ j, j < size → ∃ b, b ≤ j ∧ ts.getD (l.getD j 0) 0 = (0 :: l.map (· + 1)).getD b 0
def sp_l_chain (K : Kf) : Sp := fun vs H Q _ => ∃ (a : Addr) (ns : List Int) (size : Nat), vs = [.ref a, .int (size : Int)] ∧ SqL K H a (ns.map V.int) ∧ size ≤ 1000 ∧ ∀ p x y H2, Ex H H2 → H2 p = some (.tup [x, y]) → (∃ (q s : Addr) (l ts : List Nat), x = .ref q ∧ y = .ref s ∧ Chain size l ts ∧ H2 q = some (.lst (vn (0 :: l.map (· + 1)))) ∧ H2 s = some (.lst (vn ts)) ∧ H s = none ∧ q ≠ s) → Q (.ref p) H2
theorem sv_chain {K : Kf} {σ : L2.St} {H : Hp} {E : XK} {ta : TA} {a : Addr} {ns : List Int} {size : Nat} (h : EvA ta σ H [.ref a, .int (size : Int)]) (hS : SqL K H a (ns.map V.int)) (hs : size ≤ 1000) : EvPair (tCall (sp_l_chain K) [] E ta) σ H (fun x y H2 => ∃ (q s : Addr) (l ts : List Nat), x = .ref q ∧ y = .ref s ∧ Chain size l ts ∧ H2 q = some (.lst (vn (0 :: l.map (· + 1)))) ∧ H2 s = some (.lst (vn ts)) ∧ H s = none ∧ q ≠ s) :=
  ep_call h fun H1 e Q q E => ⟨a, ns, size, rfl, ex_l e hS, hs, fun p x y H2 e2 hp ⟨q2, s2, l, ts, h1, h2, h3, h4, h5, h6, h7⟩ => q p x y H2 e2 hp ⟨q2, s2, l, ts, h1, h2, h3, h4, h5, fresh_back e h6, h7⟩⟩
theorem chain_tree {size : Nat} {l ts : List Nat} (C : Chain size l ts) (h1 : 1 ≤ size) (h39 : size ≤ 39) : Tree ts := by
  obtain ⟨hl, ht, hd⟩ := C
  have hll : l.length = size := by rw [hl.length_eq, List.length_range]
  have hlt : ∀ x ∈ l, x < size := fun x hx => List.mem_range.mp (hl.mem_iff.mp hx)
  have hnd : l.Nodup := hl.nodup_iff.mpr List.nodup_range
  have ond : (0 :: l.map (· + 1)).Nodup := by
    refine List.nodup_cons.mpr ⟨fun h => ?_, List.Pairwise.map _ (fun x y h e => h (Nat.succ.inj e)) hnd⟩
    obtain ⟨x, _, e⟩ := List.mem_map.mp h
    omega
  have olen : (0 :: l.map (· + 1)).length = size + 1 := by rw [List.length_cons, List.length_map, hll]
  have oat : ∀ j, j < size → (0 :: l.map (· + 1)).getD (j + 1) 0 = l.getD j 0 + 1 := fun j hj => by
    rw [List.getD_eq_getElem?_getD, List.getElem?_cons_succ, List.getElem?_map, getD_some (by omega)]
    rfl
  have omem : ∀ x ∈ (0 :: l.map (· + 1)), x ≤ size := fun x hx => by
    rcases List.mem_cons.mp hx with e | h
    · omega
    · obtain ⟨y, hy, e⟩ := List.mem_map.mp h
      have := hlt y hy
      omega
  have at_ : ∀ k, k < size → ∃ j, j < size ∧ l.getD j 0 = k := fun k hk => by
    obtain ⟨j, hj, e⟩ := mem_getD (hl.mem_iff.mpr (List.mem_range.mpr hk))
    exact ⟨j, by omega, e⟩
  refine ⟨by omega, by omega, fun t h => ?_, fun x => (0 :: l.map (· + 1)).idxOf x, List.idxOf_cons_self, fun k hk => ?_⟩
  · obtain ⟨k, hk, rfl⟩ := mem_getD h
    obtain ⟨j, hj, e⟩ := at_ k (by omega)
    obtain ⟨b, hb, e2⟩ := hd j hj
    rw [e] at e2
    rw [e2, ht]
    exact omem _ (getD_mem (by omega))
  · obtain ⟨j, hj, e⟩ := at_ k (by omega)
    obtain ⟨b, hb, e2⟩ := hd j hj
    rw [e] at e2
    show (0 :: l.map (· + 1)).idxOf (ts.getD k 0) < (0 :: l.map (· + 1)).idxOf (k + 1)
    have e3 : (0 :: l.map (· + 1)).idxOf (k + 1) = j + 1 := by
      rw [← e, ← oat j hj]
      exact idx_of ond (by omega)
    rw [e3, e2, idx_of ond (by omega)]
    omega
theorem chain_step {size i c b : Nat} {l ts : List Nat} (hl : l.Nodup) (hll : l.length = size) (hi : i < size) (ht : ts.length = size) (hlt : ∀ x ∈ l, x < size) (hb : b ≤ i) (hc : c = (0 :: l.map (· + 1)).getD b 0) (hd : ∀ j, j < i → ∃ b, b ≤ j ∧ ts.getD (l.getD j 0) 0 = (0 :: l.map (· + 1)).getD b 0) :
    ∀ j, j < i + 1 → ∃ b, b ≤ j ∧ (ts.set (l.getD i 0) c).getD (l.getD j 0) 0 = (0 :: l.map (· + 1)).getD b 0 := by
  intro j hj
  by_cases e : j = i
  · subst e
    refine ⟨b, hb, ?_⟩
    rw [List.getD_eq_getElem?_getD, List.getElem?_set_self (by rw [ht]; exact hlt _ (getD_mem (by omega))), ← hc]
    rfl
  · obtain ⟨b2, hb2, e2⟩ := hd j (by omega)
    refine ⟨b2, hb2, ?_⟩
    rw [List.getD_eq_getElem?_getD, List.getElem?_set_ne (fun z => e (getD_inj hl (by omega) (by omega) z.symm)), ← List.getD_eq_getElem?_getD]
    exact e2
theorem vn_set {l : List Nat} {i w : Nat} : (vn l).set i (.int (w : Int)) = vn (l.set i w) := by
  unfold vn
  rw [List.map_set]
theorem ok_l_chain (D : Def K mg "_law_chain" s_l_chain) (T : Txt mg) (O_l_shuffled : Own P w K mg base CX0 2 "_law_shuffled" ["script", "first", "size"] (sp_l_shuffled K)) (O_l_cell_at : Own P w K mg base CX0 1 "_law_cell_at" ["script", "k"] (sp_l_cell_at K)) : Own P w K mg base CX0 3 "_law_chain" ["script", "size"] (sp_l_chain K) := by
  refine D.calm sc_l_chain bw_l_chain (fun vs H Q E h => ?_) (fun f cdv A outer s H vs Q E hr h => ?_)
  · obtain ⟨a, ns, size, rfl, _⟩ := h
    rfl
  · obtain ⟨a, ns, size, rfl, hS, hsz, kQ⟩ := h
    have hr_l_shuffled : Room 2 _ := hr.mono (by decide)
    have hr_l_cell_at : Room 1 _ := hr.mono (by decide)
    refine ⟨_, (pss_cons (ps_set (i := 2) sc_l_chain.nd rfl (Or.inl rfl) (pe_op op_cat (pe_lst (pa_cons pe_int pa_nil)) (pe_lc (own := [("k", 5)]) (g := gName 5) rfl sc_l_chain.nd (pi_list (pe_own O_l_shuffled hr_l_shuffled pass0 (pa_cons (pv 0) (pa_cons pe_int (pa_cons (pv 1) pa_nil))))) (blkOk_by (N := N_l_chain) (sc := defScope s_l_chain) (by decide +kernel)) (fun _ _ _ _ _ => pg_name (i := 5) sc_l_chain.nd rfl (.inl rfl)) (fun _ _ _ _ _ => pts_nil) (fun _ _ _ _ _ => (pe_op op_add (pv 5) pe_int)))))
        (pss_cons (ps_setLc (i := 3) (own := [("k", 5)]) (g := gName 5) rfl sc_l_chain.nd rfl rfl (sw_true rfl rfl rfl (by decide +kernel)) (pi_range1 (by rfl) T.range (pa_cons (pv 1) pa_nil)) (blkOk_by (N := N_l_chain) (sc := defScope s_l_chain) (by decide +kernel)) (fun _ _ _ _ _ => pg_name (i := 5) sc_l_chain.nd rfl (.inl rfl)) (fun _ _ _ _ _ => pts_nil) (fun _ _ _ _ _ => pe_int))
        (pss_cons (ps_for PassesOwn.never rfl (pi_range2 (by rfl) T.range (pa_cons pe_int (pa_cons (pe_op op_add (pv 1) pe_int) pa_nil))) (pg_name (i := 4) sc_l_chain.nd rfl (Or.inl rfl))
        (pss_one (ps_asg (pe_ix ix_list (pv 2) (pe_op op_sub (pe_op op_sub (pv 4) pe_int) (pe_op op_mod (pe_own O_l_cell_at hr_l_cell_at pass0 (pa_cons (pv 0) (pa_cons pe_int pa_nil))) (pv 4))) (fun _ _ => rfl)) (pg_sub (pv 3) (pe_op op_sub (pe_ix ix_list (pv 2) (pv 4) (fun _ _ => rfl)) pe_int) set_list))))
        (pss_one (ps_ret (pe_tup (pa_cons (pv 2) (pa_cons (pv 3) pa_nil)))))))), ?_⟩
    try dsimp only [cxOf]
    refine q_asgLP (P := fun xs => ∃ l : List Nat, xs = vn (0 :: l.map (· + 1)) ∧ l.Perm (List.range size)) (fun H3 e3 Q2 q2 => ?_) fun op xs H3 nop e3 hop hP => ?_
    · refine el_lst (ea_cons ev_c ea_nil) (Nat.le_of_ble_eq_true rfl) H3 e3 _ fun zp H4 nzp e4 hzp => ?_
      refine lp_lc (K := K) (P := fun xs => ∃ l : List Nat, xs = vn l ∧ l.Perm (List.range size)) (fun _ => true) (fun x => match x with | .int i => .int (i + 1) | _ => .non) (sv_shuffled (n := size) (by walk_at "ea") hS (by omega) (by omega)) ?_ (fun _ => rfl) (fun _ _ _ _ _ _ => et_yes) ?_ H4 (e3.trans e4) _ fun bp ys H5 nbp e5 hbp hQ => ?_
      · rintro xs ⟨l, rfl, hl⟩
        rw [vn_len, hl.length_eq, List.length_range]
        omega
      · rintro xs x H5 ⟨l, rfl, hl⟩ e5 hx _
        unfold vn at hx
        obtain ⟨k, hk, rfl⟩ := List.mem_map.mp hx
        exact ev_op (ev_var rfl) ev_c rv_I0
      · obtain ⟨xs, ⟨l, rfl, hl⟩, rfl⟩ := hQ
        have hyl : ((vn l).filter fun _ => true).map (fun x => match x with | .int i => V.int (i + 1) | _ => .non) = vn (l.map (· + 1)) := by
          rw [List.filter_eq_self.mpr fun _ _ => rfl]
          unfold vn
          rw [List.map_map, List.map_map]
          rfl
        rw [hyl] at hbp
        refine rv_cat (e5 _ _ hzp) hbp (by rw [vn_len, List.length_map, hl.length_eq, List.length_range]; show 1 + size ≤ 100000; omega) fun lp hlp => q2 lp _ _ (fresh_back (e4.trans e5) hlp) ((e4.trans e5).trans (Ex.new hlp)) upd_same ⟨l, rfl, hl⟩
    obtain ⟨l, rfl, hl⟩ := hP
    have hll : l.length = size := by rw [hl.length_eq, List.length_range]
    have hlt : ∀ x ∈ l, x < size := fun x hx => List.mem_range.mp (hl.mem_iff.mp hx)
    have hnd : l.Nodup := hl.nodup_iff.mpr List.nodup_range
    have hS3 := ex_l e3 hS
    refine q_asgL (xs := vn (List.replicate size 0)) (el_is (el_lcR1 (n := (size : Int)) (fun _ => true) (fun _ => .int 0) (by walk_at "ea") (by omega) (fun _ => rfl) (fun _ _ _ _ => et_yes) (fun _ _ _ _ _ => ev_c)) ?_) fun tp H4 ntp e4 htp => ?_
    · rw [given_all (fun _ => rfl), Int.toNat_natCast]
      unfold vn
      rw [List.map_replicate]
      refine List.ext_getElem? fun i => ?_
      rw [List.getElem?_map, List.getElem?_replicate]
      by_cases h : i < size
      · rw [List.getElem?_range h, if_pos h]
        rfl
      · rw [List.getElem?_eq_none (by rw [List.length_range]; omega), if_neg h]
        rfl
    have ntp0 : H tp = none := fresh_back e3 ntp
    have npo : op ≠ tp := fun z => by
      rw [z] at hop
      rw [ntp] at hop
      cases hop
    refine q_forR2 (lo := 1) (n := ((size : Int) + 1)) (by walk_at "ea") ⟨by omega, by omega, by omega, by omega⟩ (fun i σ' H' => ∃ o4 ts, σ' = [some (.ref a), some (.int (size : Int)), some (.ref op), some (.ref tp), o4, none] ∧ Ex H3 H' ∧ H' tp = some (.lst (vn ts)) ∧ ts.length = size ∧ ∀ j, j < i → ∃ b, b ≤ j ∧ ts.getD (l.getD j 0) 0 = (0 :: l.map (· + 1)).getD b 0)
      (fun H5 e5 => ⟨none, List.replicate size 0, rfl, e4.trans e5, e5 _ _ htp, List.length_replicate, fun j hj => absurd hj (Nat.not_lt_zero _)⟩) ?_ ?_
    · rintro i σ' H' hi ⟨o4, ts, rfl, eH, ht, htl, hd⟩
      have hi2 : i < size := by omega
      have hS' := ex_l eH hS3
      have hop' := eH _ _ hop
      obtain ⟨b0, hb0, hb0l⟩ := mod_nat (cellAt ns 5) (m := 1 + (i : Int)) (n := i + 1) (by omega) (by omega)
      have olen : (0 :: l.map (· + 1)).length = size + 1 := by rw [List.length_cons, List.length_map, hll]
      have oat : (0 :: l.map (· + 1)).getD (i + 1) 0 = l.getD i 0 + 1 := by
        rw [List.getD_eq_getElem?_getD, List.getElem?_cons_succ, List.getElem?_map, getD_some (by omega)]
        rfl
      have hli : l.getD i 0 < size := hlt _ (getD_mem (by omega))
      refine s_setL (j := l.getD i 0) (v := .int (((0 :: l.map (· + 1)).getD (i - b0) 0 : Nat) : Int)) ht (ev_ixL (i := ((i - b0 : Nat) : Int)) (ev_var rfl) (ev_is (ev_op (ev_op (ev_var rfl) ev_c rv_I0) (ev_op (sv_cell (by walk_at "ea") hS' (by omega)) (ev_var rfl) (rv_I (by show (0 : Int) < _; omega))) rv_I0) (congrArg V.int (by omega))) (sq_of hop') (atI_nat (vn_get (getD_some (by omega))))) (ev_var rfl) (ev_is (ev_op (ev_ixL (i := ((i + 1 : Nat) : Int)) (ev_var rfl) (ev_is (ev_var rfl) (congrArg V.int (by omega))) (sq_of hop') (atI_nat (vn_get (getD_some (by omega))))) ev_c rv_I0) ?_) (by rw [vn_len]; omega) fun H9 e9 => ?_
      · refine congrArg V.int ?_
        rw [oat]
        omega
      refine ⟨_, ts.set (l.getD i 0) ((0 :: l.map (· + 1)).getD (i - b0) 0), rfl, (eH.trans e9).mut ntp, ?_, by rw [List.length_set]; exact htl, chain_step hnd hll hi2 htl hlt (Nat.sub_le _ _) rfl hd⟩
      rw [upd_same, vn_set]
    · rintro σ' H' ⟨o4, ts, rfl, eH, ht, htl, hd⟩
      have en : ((size : Int) + 1 - 1).toNat = size := by omega
      rw [en] at hd
      refine s_retU (by walk_at "eu") fun p H5 np e5 hp => ?_
      exact kQ p _ _ H5 ((e3.trans eH).trans e5) hp ⟨op, tp, l, ts, rfl, rfl, ⟨hl, htl, hd⟩, e5 _ _ (eH _ _ hop), e5 _ _ ht, ntp0, npo⟩

abbrev s_l_bad_tree : Stmt := top 24
abbrev N_l_bad_tree : List Str := ["script", "way", "far", "size", "order", "parents", "knot"]
theorem sc_l_bad_tree : FnScope N_l_bad_tree ["script", "way", "far"] (defScope s_l_bad_tree) := ⟨rfl, rfl, rfl, by decide +kernel, rfl, by decide +kernel, by decide +kernel⟩
theorem bw_l_bad_tree : BindsWell "_law_bad_tree" s_l_bad_tree ["script", "way", "far"] := fun _ _ _ _ _ _ us hl => match us, hl with | [_, _, _], _ => rfl

def TreeDone (way : Int) (n : Nat) : Prop := way = 8 ∨ (way = 7 ∧ n = 1)
def sp_l_bad_tree (K : Kf) : Sp := fun vs H Q _ => ∃ (a : Addr) (ns : List Int) (way far : Int), vs = [.ref a, .int way, .int far] ∧ SqL K H a (ns.map V.int) ∧ (0 ≤ way ∧ way < 9) ∧ 0 ≤ far ∧ ∀ zs : List Int, zs.length ≤ 43 → (TreeDone way zs.length → GoodT zs) → (¬ TreeDone way zs.length → ¬ GoodT zs) → RetL (zs.map V.int) H Q
theorem sv_bad_tree {K : Kf} {σ : L2.St} {H : Hp} {E : XK} {ta : TA} {a : Addr} {ns : List Int} {way far : Int} (h : EvA ta σ H [.ref a, .int way, .int far]) (hS : SqL K H a (ns.map V.int)) (hw : 0 ≤ way ∧ way < 9) (hf : 0 ≤ far) : EvLP (tCall (sp_l_bad_tree K) [] E ta) σ H (fun xs => ∃ zs : List Int, xs = zs.map V.int ∧ zs.length ≤ 43 ∧ (TreeDone way zs.length → GoodT zs) ∧ (¬ TreeDone way zs.length → ¬ GoodT zs)) :=
  lp_call h fun H1 e Q q E => ⟨a, ns, way, far, rfl, ex_l e hS, hw, hf, fun zs h1 h2 h3 => q _ ⟨zs, rfl, h1, h2, h3⟩⟩
theorem ok_l_bad_tree (D : Def K mg "_law_bad_tree" s_l_bad_tree) (T : Txt mg) (O_l_cell_at : Own P w K mg base CX0 1 "_law_cell_at" ["script", "k"] (sp_l_cell_at K)) (O_l_chain : Own P w K mg base CX0 3 "_law_chain" ["script", "size"] (sp_l_chain K)) : Own P w K mg base CX0 4 "_law_bad_tree" ["script", "way", "far"] (sp_l_bad_tree K) := by
  refine D.calm sc_l_bad_tree bw_l_bad_tree (fun vs H Q E h => ?_) (fun f cdv A outer s H vs Q E hr h => ?_)
  · obtain ⟨a, ns, way, far, rfl, _⟩ := h
    rfl
  · obtain ⟨a, ns, way, far, rfl, hS, hw9, hfar, kQ⟩ := h
    have hr_l_cell_at : Room 1 _ := hr.mono (by decide)
    have hr_l_chain : Room 3 _ := hr.mono (by decide)
    refine ⟨_, (pss_cons (ps_set (i := 3) sc_l_bad_tree.nd rfl (Or.inl rfl) (pe_op op_add pe_int (pe_op op_mod (pe_own O_l_cell_at hr_l_cell_at pass0 (pa_cons (pv 0) (pa_cons pe_int pa_nil))) pe_int)))
        (pss_cons (ps_if (pt_cmpR op_eq (pv 1) pe_int (nomark _))
        (pss_one (ps_set (i := 3) sc_l_bad_tree.nd rfl (Or.inl rfl) pe_int))
        pss_nil)
        (pss_cons (ps_if (pt_cmpR op_eq (pv 1) pe_int (nomark _))
        (pss_one (ps_set (i := 3) sc_l_bad_tree.nd rfl (Or.inl rfl) (pe_op op_add pe_int (pe_op op_mod (pe_own O_l_cell_at hr_l_cell_at pass0 (pa_cons (pv 0) (pa_cons pe_int pa_nil))) pe_int))))
        pss_nil)
        (pss_cons (ps_asg (pe_own O_l_chain hr_l_chain pass0 (pa_cons (pv 0) (pa_cons (pv 3) pa_nil))) (pg_tup (by rfl) (pgs_cons (pg_name (i := 4) sc_l_bad_tree.nd rfl (Or.inl rfl)) (pgs_cons (pg_name (i := 5) sc_l_bad_tree.nd rfl (Or.inl rfl)) pgs_nil))))
        (pss_cons (ps_if (PW.pt (pw_and (pt_cmpR op_gt (pv 1) pe_int (nomark _)) (pw_and1 (pt_cmpR op_lt (pv 1) pe_int (nomark _)))))
        (pss_one (ps_asg (pe_ix ix_list (pe_lst (pa_cons (pe_un un_neg pe_int) (pa_cons (pe_op op_add (pv 3) pe_int) (pa_cons (pe_op op_sub (pe_un un_neg pe_int) (pv 2)) (pa_cons (pe_op op_add (pe_op op_add (pv 3) pe_int) (pv 2)) pa_nil))))) (pe_op op_sub (pv 1) pe_int) (fun _ _ => rfl)) (pg_sub (pv 5) (pe_op op_mod (pe_own O_l_cell_at hr_l_cell_at pass0 (pa_cons (pv 0) (pa_cons pe_int pa_nil))) (pv 3)) set_list)))
        pss_nil)
        (pss_cons (ps_if (pt_cmpR op_eq (pv 1) pe_int (nomark _))
        (pss_cons (ps_set (i := 6) sc_l_bad_tree.nd rfl (Or.inl rfl) (pe_op op_add pe_int (pe_op op_mod (pe_own O_l_cell_at hr_l_cell_at pass0 (pa_cons (pv 0) (pa_cons pe_int pa_nil))) (pv 3))))
          (pss_one (ps_asg (pv 6) (pg_sub (pv 5) (pe_op op_sub (pv 6) pe_int) set_list))))
        pss_nil)
        (pss_cons (ps_if (PW.pt (pw_and (pt_cmpR op_eq (pv 1) pe_int (nomark _)) (pw_and1 (pt_cmpR op_gt (pv 3) pe_int (nomark _)))))
        (pss_cons (ps_asg (pe_ix ix_list (pv 4) (pv 3) (fun _ _ => rfl)) (pg_sub (pv 5) (pe_op op_sub (pe_ix ix_list (pv 4) pe_int (fun _ _ => rfl)) pe_int) set_list))
          (pss_one (ps_asg (pe_ix ix_list (pv 4) pe_int (fun _ _ => rfl)) (pg_sub (pv 5) (pe_op op_sub (pe_ix ix_list (pv 4) (pv 3) (fun _ _ => rfl)) pe_int) set_list))))
        pss_nil)
        (pss_one (ps_ret (pv 5)))))))))), ?_⟩
    try dsimp only [cxOf]
    obtain ⟨n0, en0, h1, h8⟩ : ∃ n : Nat, 1 + cellAt ns 0 % 39 = (n : Int) ∧ 1 ≤ n ∧ n ≤ 39 := ⟨(1 + cellAt ns 0 % 39).toNat, by omega, by omega, by omega⟩
    refine q_asg (v := .int (n0 : Int)) (ev_is (by walk_at "ev") (congrArg V.int en0)) fun H1 e1 => ?_
    have hS1 := ex_l e1 hS
    refine q_ifP (fun v => ∃ n : Nat, v = .int (n : Int) ∧ (way = 0 → n = 0) ∧ (way ≠ 0 → 1 ≤ n ∧ n ≤ 39)) (et_test (ev_op (ev_var rfl) ev_c (rv_eq rfl))) (fun hb => ⟨_, ev_c, 0, rfl, fun _ => rfl, fun h => absurd (V.int.inj (of_decide_eq_true hb)) h⟩) (fun hb => ⟨_, rfl, n0, rfl, fun h => absurd (congrArg V.int h) (of_decide_eq_false hb), fun _ => ⟨h1, h8⟩⟩) ?_
    rintro v H4 ⟨n1, rfl, a1, a2⟩ e4
    have hS4 := ex_l e4 hS1
    refine q_ifP (fun v => ∃ n : Nat, v = .int (n : Int) ∧ (way = 0 → n = 0) ∧ (way = 1 → 40 ≤ n ∧ n ≤ 43) ∧ (1 < way → 1 ≤ n ∧ n ≤ 39)) (et_test (ev_op (ev_var rfl) ev_c (rv_eq rfl))) (fun hb => ?_) (fun hb => ?_) ?_
    · have hb2 := V.int.inj (of_decide_eq_true hb)
      exact ⟨_, by walk_at "ev", (40 + cellAt ns 0 % 4).toNat, congrArg V.int (by omega), fun h => by omega, fun _ => by omega, fun h => by omega⟩
    · have hb2 : way ≠ 1 := fun h => of_decide_eq_false hb (congrArg V.int h)
      exact ⟨_, rfl, n1, rfl, a1, fun h => absurd h hb2, fun h => a2 (by omega)⟩
    rintro v H5 ⟨n, rfl, b0, b1, b2⟩ e5
    have hS5 := ex_l e5 hS4
    have hn43 : n ≤ 43 := by
      by_cases c0 : way = 0
      · have := b0 c0
        omega
      · by_cases c1 : way = 1
        · exact (b1 c1).2
        · have := (b2 (by omega)).2
          omega
    have eH5 : Ex H H5 := (e1.trans e4).trans e5
    refine q_asg2 (sv_chain (size := n) (by walk_at "ea") hS5 (by omega)) ?_
    rintro x y H6 e6 ⟨oq, sq, l, ts, rfl, rfl, C, hoq, hsq, nsq, hne⟩
    have hll : l.length = n := by rw [C.perm.length_eq, List.length_range]
    have hlt : ∀ x ∈ l, x < n := fun x hx => List.mem_range.mp (C.perm.mem_iff.mp hx)
    have hnd : l.Nodup := C.perm.nodup_iff.mpr List.nodup_range
    have htl := C.len
    rw [vn_ints] at hsq
    have eH6 : Ex H H6 := eH5.trans e6
    have nsq0 : H sq = none := fresh_back eH5 nsq
    refine q_whenN (fun σ' H' => ∃ zs : List Int, σ' = [some (.ref a), some (.int way), some (.int far), some (.int (n : Int)), some (.ref oq), some (.ref sq), none] ∧ Ex H H' ∧ H' oq = some (.lst (vn (0 :: l.map (· + 1)))) ∧ H' sq = some (.lst (zs.map V.int)) ∧ zs.length = n ∧ (6 ≤ way ∨ way ≤ 1 → zs = ts.map Int.ofNat) ∧ (2 ≤ way ∧ way ≤ 5 → ¬ GoodT zs)) (b := decide (1 < way) && decide (way < 6)) (et_and (et_test (by walk_at "ev")) fun _ => et_test (by walk_at "ev")) ?_ (fun hb H7 e7 hk => ?_) (fun hb H7 e7 => ?_)
    · rintro σ' H7 ⟨zs, rfl, e7, hoq, hzs, hzl, g1, g2⟩
      have hS7 := ex_l e7 hS
      refine q_whenN (fun σ' H' => ∃ o6 zs, σ' = [some (.ref a), some (.int way), some (.int far), some (.int (n : Int)), some (.ref oq), some (.ref sq), o6] ∧ Ex H H' ∧ H' oq = some (.lst (vn (0 :: l.map (· + 1)))) ∧ H' sq = some (.lst (zs.map V.int)) ∧ zs.length = n ∧ (7 ≤ way ∨ way ≤ 1 → zs = ts.map Int.ofNat) ∧ (2 ≤ way ∧ way ≤ 6 → ¬ GoodT zs)) (b := decide (way = 6)) (et_is (et_test (ev_op (ev_var rfl) ev_c (rv_eq rfl))) (decide_eq_decide.mpr ⟨fun h => V.int.inj h, fun h => by rw [h]⟩)) ?_ (fun hb H8 e8 hk => ?_) (fun hb H8 e8 => ?_)
      · rintro σ' H8 ⟨o6, zs, rfl, e8, hoq, hzs, hzl, g1, g2⟩
        have fin : ∀ (D : Ends) (_ : D.rt = Q) (zs : List Int) (H' : Hp), Ex H H' → H' sq = some (.lst (zs.map V.int)) → zs.length = n → (TreeDone way n → GoodT zs) → (¬ TreeDone way n → ¬ GoodT zs) → tRet (tVar 5) D ([some (.ref a), some (.int way), some (.int far), some (.int (n : Int)), some (.ref oq), some (.ref sq), o6] : L2.St) H' := fun D hD zs H' eH hz hl k1 k2 => s_ret (ev_var rfl) fun H9 e9 => by
          rw [hD]
          exact kQ zs (by omega) (by rw [hl]; exact k1) (by rw [hl]; exact k2) sq H9 nsq0 (eH.trans e9) (e9 _ _ hz)
        refine q_when (b := decide (way = 7) && decide (1 < n)) (et_and (et_is (et_test (ev_op (ev_var rfl) ev_c (rv_eq rfl))) (decide_eq_decide.mpr ⟨fun h => V.int.inj h, fun h => by rw [h]⟩)) fun _ => et_is (et_test (by walk_at "ev")) (decide_eq_decide.mpr (by omega))) (fun hb H9 e9 => ?_) (fun hb H9 e9 => ?_)
        · rw [Bool.and_eq_true, decide_eq_true_eq, decide_eq_true_eq] at hb
          have hn := b2 (by omega)
          have hzeq := g1 (by omega)
          have olen : (0 :: l.map (· + 1)).length = n + 1 := by rw [List.length_cons, List.length_map, hll]
          have oat : ∀ i, i < n → (vn (0 :: l.map (· + 1)))[i + 1]? = some (.int ((l.getD i 0 + 1 : Nat) : Int)) := fun i hi => vn_get (by
            rw [List.getElem?_cons_succ, List.getElem?_map, getD_some (by omega)]
            rfl)
          have o1 := oat 0 (by omega)
          have oN := oat (n - 1) (by omega)
          have eN : n - 1 + 1 = n := by omega
          rw [eN] at oN
          have hl0 : l.getD 0 0 < n := hlt _ (getD_mem (by omega))
          have hlN : l.getD (n - 1) 0 < n := hlt _ (getD_mem (by omega))
          have hdiff : l.getD 0 0 ≠ l.getD (n - 1) 0 := fun z => by
            have := getD_inj hnd (by omega) (by omega) z
            omega
          have evN : ∀ H2, Ex H9 H2 → Ev (tOp (rIxL K) (tVar 4) (tVar 3)) ([some (.ref a), some (.int way), some (.int far), some (.int (n : Int)), some (.ref oq), some (.ref sq), o6] : L2.St) H2 (.int ((l.getD (n - 1) 0 + 1 : Nat) : Int)) := fun H2 e2 => ev_ixL (ev_var rfl) (ev_var rfl) (sq_of (e2 _ _ (e9 _ _ hoq))) (atI_nat oN)
          have ev1 : ∀ H2, H2 oq = some (.lst (vn (0 :: l.map (· + 1)))) → Ev (tOp (rIxL K) (tVar 4) (tC (.int 1))) ([some (.ref a), some (.int way), some (.int far), some (.int (n : Int)), some (.ref oq), some (.ref sq), o6] : L2.St) H2 (.int ((l.getD 0 0 + 1 : Nat) : Int)) := fun H2 h2 => ev_ixL (i := 1) (ev_var rfl) ev_c (sq_of h2) (atI_get? (j := 1) rfl o1)
          refine q_setL (j := l.getD 0 0) (e9 _ _ hzs) (evN _ (Ex.refl _)) (ev_var rfl) (ev_is (ev_op (ev1 _ (e9 _ _ hoq)) ev_c rv_I0) (congrArg V.int (by omega))) (by rw [List.length_map]; omega) fun H10 e10 => ?_
          have hoq10 : (upd H10 sq (.lst ((zs.map V.int).set (l.getD 0 0) (.int ((l.getD (n - 1) 0 + 1 : Nat) : Int))))) oq = some (.lst (vn (0 :: l.map (· + 1)))) := by
            rw [upd_ne hne]
            exact e10 _ _ (e9 _ _ hoq)
          refine q_setL (j := l.getD (n - 1) 0) upd_same (ev1 _ hoq10) (ev_var rfl) (ev_is (ev_op (ev_ixL (ev_var rfl) (ev_var rfl) (sq_of hoq10) (atI_nat oN)) ev_c rv_I0) (congrArg V.int (by omega))) (by rw [List.length_set, List.length_map]; omega) fun H11 e11 => ?_
          refine fin _ rfl ((zs.set (l.getD 0 0) (Int.ofNat (l.getD (n - 1) 0 + 1))).set (l.getD (n - 1) 0) (Int.ofNat (l.getD 0 0 + 1))) _ ((((e8.trans e9).trans e10).mut nsq0).trans e11 |>.mut nsq0) ?_ (by rw [List.length_set, List.length_set]; exact hzl) (fun h => ?_) (fun _ => ?_)
          · rw [upd_same, List.map_set, List.map_set]
            rfl
          · rcases h with h | h <;> omega
          · rw [hzeq, map_set, map_set]
            exact no_pair (by omega) (by omega) hdiff
        · have hb2 : ¬ (way = 7 ∧ 1 < n) := fun ⟨h, g⟩ => by
            rw [decide_eq_true h, decide_eq_true g] at hb
            cases hb
          refine fin _ rfl zs H9 (e8.trans e9) (e9 _ _ hzs) hzl (fun h => ?_) (fun h => ?_)
          · have hn : 1 ≤ n ∧ n ≤ 39 := b2 (by rcases h with h | h <;> omega)
            rw [g1 (by rcases h with h | h <;> omega)]
            exact ⟨ts, rfl, chain_tree C hn.1 hn.2⟩
          · by_cases c : way ≤ 1
            · rw [g1 (.inr c)]
              refine no_len ?_
              rw [List.length_map, htl]
              by_cases c0 : way = 0
              · have := b0 c0
                omega
              · have := b1 (by omega)
                omega
            · refine g2 ⟨by omega, ?_⟩
              by_cases c8 : way = 8
              · exact absurd (.inl c8) h
              · by_cases c7 : way = 7
                · have hn := b2 (by omega)
                  exact absurd (.inr ⟨c7, by omega⟩) h
                · omega
      · have hw6 := of_decide_eq_true hb
        have hn := b2 (by omega)
        have hS8 := ex_l e8 hS7
        obtain ⟨j, hj, hjl⟩ := mod_nat (cellAt ns 2) (m := (n : Int)) (n := n) (by omega) (by omega)
        refine q_asg (v := .int ((j + 1 : Nat) : Int)) (ev_is (ev_op ev_c (ev_op (sv_cell (by walk_at "ea") hS8 (by omega)) (ev_var rfl) (rv_I (by show (0 : Int) < _; omega))) rv_I0) (congrArg V.int (by omega))) fun H9 e9 => ?_
        refine s_setL (j := j) (e9 _ _ (e8 _ _ hzs)) (ev_var rfl) (ev_var rfl) (ev_is (ev_op (ev_var rfl) ev_c rv_I0) (congrArg V.int (by omega))) (by rw [List.length_map]; omega) fun H10 e10 => ?_
        refine hk _ _ ⟨_, zs.set j (Int.ofNat (j + 1)), rfl, (((e7.trans e8).trans e9).trans e10).mut nsq0, ?_, ?_, by rw [List.length_set]; exact hzl, fun h => by omega, fun _ => ?_⟩
        · rw [upd_ne hne]
          exact e10 _ _ (e9 _ _ (e8 _ _ hoq))
        · rw [upd_same, List.map_set]
          rfl
        · rw [g1 (by omega), map_set]
          exact no_loop (by omega)
      · have hw6 := of_decide_eq_false hb
        exact ⟨none, zs, rfl, e7.trans e8, e8 _ _ hoq, e8 _ _ hzs, hzl, fun h => g1 (by omega), fun h => g2 (by omega)⟩
    · rw [Bool.and_eq_true, decide_eq_true_eq, decide_eq_true_eq] at hb
      obtain ⟨bad, hat, hbad⟩ : ∃ bad : Int, atI [V.int (-1), V.int ((n : Int) + 1), V.int (-1 - far), V.int ((n : Int) + 1 + far)] (way - 2) = some (.int bad) ∧ (bad < 0 ∨ (n : Int) < bad) := by
        have h4 : way = 2 ∨ way = 3 ∨ way = 4 ∨ way = 5 := by omega
        rcases h4 with h | h | h | h
        · rw [h]
          exact ⟨_, rfl, .inl (by omega)⟩
        · rw [h]
          exact ⟨_, rfl, .inr (by omega)⟩
        · rw [h]
          exact ⟨_, rfl, .inl (by omega)⟩
        · rw [h]
          exact ⟨_, rfl, .inr (by omega)⟩
      have hS7 := ex_l (eH6.trans e7) hS
      have hn1 := (b2 hb.1).1
      have hzl : (ts.map Int.ofNat).length = n := by rw [List.length_map]; exact htl
      obtain ⟨j, hj, hjl⟩ := mod_nat (cellAt ns 2) (m := (n : Int)) (n := n) (by omega) (by omega)
      refine s_setL (j := j) (e7 _ _ hsq) (v := .int bad) (ev_ixNL (i := way - 2) (el_lst (ea_cons (ev_un ev_c ru_neg) (ea_cons (ev_op (ev_var rfl) ev_c rv_I0) (ea_cons (ev_op (ev_un ev_c ru_neg) (ev_var rfl) rv_I0) (ea_cons (ev_op (ev_op (ev_var rfl) ev_c rv_I0) (ev_var rfl) rv_I0) ea_nil)))) (Nat.le_of_ble_eq_true rfl)) (fun H8 e8 => ev_op (ev_var rfl) ev_c rv_I0) hat) (ev_var rfl) (ev_is (ev_op (sv_cell (by walk_at "ea") hS7 (by omega)) (ev_var rfl) (rv_I (by show (0 : Int) < _; omega))) (congrArg V.int hj)) (by rw [List.length_map, hzl]; exact hjl) fun H9 e9 => ?_
      refine hk _ _ ⟨(ts.map Int.ofNat).set j bad, rfl, ((eH6.trans e7).trans e9).mut nsq0, ?_, ?_, by rw [List.length_set]; exact hzl, fun h => by omega, fun _ => no_knot (set_mem (by omega)) (by rw [List.length_set, hzl]; exact hbad)⟩
      · rw [upd_ne hne]
        exact e9 _ _ (e7 _ _ hoq)
      · rw [upd_same, List.map_set]
    · rw [Bool.and_eq_false_iff, decide_eq_false_iff_not, decide_eq_false_iff_not] at hb
      exact ⟨ts.map Int.ofNat, rfl, eH6.trans e7, e7 _ _ hoq, e7 _ _ hsq, by rw [List.length_map]; exact htl, fun _ => rfl, fun h => by omega⟩

abbrev s_asked_tree : Stmt := top 16
abbrev N_asked_tree : List Str := ["parents", "many", "parent", "knot", "steps"]
theorem sc_asked_tree : FnScope N_asked_tree ["parents"] (defScope s_asked_tree) := ⟨rfl, rfl, rfl, by decide +kernel, rfl, by decide +kernel, by decide +kernel⟩
theorem bw_asked_tree : BindsWell "asked_tree" s_asked_tree ["parents"] := fun _ _ _ _ _ _ us hl => match us, hl with | [_], _ => rfl

def sp_asked_tree (K : Kf) : Sp := fun vs H Q E => ∃ (a : Addr) (ns : List Int), vs = [.ref a] ∧ SqL K H a (ns.map V.int) ∧ ns.length ≤ 1000 ∧ (¬ GoodT ns → ∀ H', Ex H H' → E (.ref (He.ga K (classAt 3))) none H') ∧ (GoodT ns → RetV .non H Q)
theorem sv_asked_tree {K : Kf} {σ : L2.St} {H : Hp} {E : XK} {ta : TA} {a : Addr} {ts : List Nat} (h : EvA ta σ H [.ref a]) (hS : SqL K H a (vn ts)) (hR : Tree ts) : Ev (tCall (sp_asked_tree K) [] E ta) σ H .non :=
  ev_callV h fun H1 e Q q E => ⟨a, ts.map Int.ofNat, rfl, by rw [← vn_ints]; exact ex_l e hS, by rw [List.length_map]; have := hR.hi; omega, fun hb => absurd ⟨ts, rfl, hR⟩ hb, fun _ => q⟩
theorem rz_asked_tree {K : Kf} {σ : L2.St} {H : Hp} {E : XK} {ta : TA} {a : Addr} {ns : List Int} (h : EvA ta σ H [.ref a]) (hS : SqL K H a (ns.map V.int)) (hl : ns.length ≤ 1000) (hb : ¬ GoodT ns) (hE : ∀ H', Ex H H' → E (.ref (He.ga K (classAt 3))) none H') : Rz (tCall (sp_asked_tree K) [] E ta) σ H :=
  rz_call h fun H1 e Q => ⟨a, ns, rfl, ex_l e hS, hl, fun _ H' e2 => hE H' (e.trans e2), fun hg => absurd hg hb⟩
theorem ok_asked_tree (D : Def K mg "asked_tree" s_asked_tree) (T : Txt mg) {tMOST : Tok} (cMOST : mg "MOST" = some (.int 39 tMOST)) (E_NoTree : Exc K mg "NoTree") : Own P w K mg base (L2.CX P w) 1 "asked_tree" ["parents"] (sp_asked_tree K) := by
  refine D.hot sc_asked_tree bw_asked_tree (fun vs H Q E h => ?_) (fun f cdv A outer s H vs Q E hr h => ?_)
  · obtain ⟨a, ns, rfl, _⟩ := h
    rfl
  · obtain ⟨a, ns, rfl, hS, hl, hE, kQ⟩ := h
    refine ⟨_, (pss_cons (ps_set (i := 1) sc_asked_tree.nd rfl (Or.inl rfl) (pe_callB cr_len (by rfl) T.len PySem.boot_len (pa_cons (pv 0) pa_nil)))
        (pss_cons (ps_if (PW.pt (pw_or (pt_cmpR op_lt (pv 1) pe_int (nomark _)) (pw_or1 (pt_cmpR op_gt (pv 1) (pe_glob (v := .int 39) rfl cMOST ⟨_, rfl⟩) (nomark _)))))
        (pss_one (ps_raise rfl (takes_of rfl rfl rfl rfl) (pmk_own PySem.F.excBase_ValueError E_NoTree.x E_NoTree.g E_NoTree.k (raises_own E_NoTree.b E_NoTree.t) rfl)))
        pss_nil)
        (pss_cons (ps_for (passes_of rfl) rfl (pi_list (pv 0)) (pg_name (i := 2) sc_asked_tree.nd rfl (Or.inl rfl))
        (pss_one (ps_if (PW.pt (pw_or (pt_cmpR op_lt (pv 2) pe_int (nomark _)) (pw_or1 (pt_cmpR op_gt (pv 2) (pv 1) (nomark _)))))
          (pss_one (ps_raise rfl (takes_of rfl rfl rfl rfl) (pmk_own PySem.F.excBase_ValueError E_NoTree.x E_NoTree.g E_NoTree.k (raises_own E_NoTree.b E_NoTree.t) rfl)))
          pss_nil)))
        (pss_one (ps_for (passes_of rfl) rfl (pi_range2 (by rfl) T.range (pa_cons pe_int (pa_cons (pe_op op_add (pv 1) pe_int) pa_nil))) (pg_name (i := 3) sc_asked_tree.nd rfl (Or.inl rfl))
        (pss_cons (ps_set (i := 4) sc_asked_tree.nd rfl (Or.inl rfl) pe_int)
          (pss_cons (ps_while (passes_of rfl) (PW.pt (pw_and (pt_cmpR op_ne (pv 3) pe_int (nomark _)) (pw_and1 (pt_cmpR op_le (pv 4) (pv 1) (nomark _)))))
          (pss_cons (ps_set (i := 3) sc_asked_tree.nd rfl (Or.inl rfl) (pe_ix ix_list (pv 0) (pe_op op_sub (pv 3) pe_int) (fun _ _ => rfl)))
            (pss_one (ps_set (i := 4) sc_asked_tree.nd rfl (Or.inl rfl) (pe_op op_add (pv 4) pe_int)))))
          (pss_one (ps_if (pt_cmpR op_ne (pv 3) pe_int (nomark _))
          (pss_one (ps_raise rfl (takes_of rfl rfl rfl rfl) (pmk_own PySem.F.excBase_ValueError E_NoTree.x E_NoTree.g E_NoTree.k (raises_own E_NoTree.b E_NoTree.t) rfl)))
          pss_nil))))))))), ?_⟩
    try dsimp only [cxOf]
    refine q_asg (v := .int (ns.length : Int)) (ev_is (ev_len (K := K) (ev_var rfl) hS) (by rw [List.length_map])) fun H1 e1 => ?_
    refine q_when (by walk_at "et") (fun hb H2 e2 => ?_) (fun hb H2 e2 => ?_)
    · rw [Bool.or_eq_true, decide_eq_true_eq, decide_eq_true_eq] at hb
      exact hE (no_len (by omega)) H2 (e1.trans e2)
    rw [Bool.or_eq_false_iff, decide_eq_false_iff_not, decide_eq_false_iff_not] at hb
    have eH2 : Ex H H2 := e1.trans e2
    refine q_forLn (K := K) (a := a) (xs := ns.map V.int) (by walk_at "ev") (ex_l eH2 hS) (fun i σ' H' => ∃ o, σ' = [some (.ref a), some (.int (ns.length : Int)), o, none, none] ∧ Ex H H' ∧ ∀ w ∈ ns.take i, 0 ≤ w ∧ w ≤ ns.length) (fun H3 e3 => ⟨none, rfl, eH2.trans e3, fun w hw => by cases hw⟩) (fun i σ' H' _ p => ?_) ?_ ?_
    · obtain ⟨_, _, eH, _⟩ := p
      exact ex_l eH hS
    · rintro i x σ' H' hx ⟨o, rfl, eH, hq⟩
      obtain ⟨w, rfl, hw, hi, hm, _⟩ := map_at hx
      refine s_when (by walk_at "et") (fun hb2 H3 e3 => ?_) (fun hb2 H3 e3 => ?_)
      · rw [Bool.or_eq_true, decide_eq_true_eq, decide_eq_true_eq] at hb2
        exact hE (no_knot hm hb2) H3 (eH.trans e3)
      · rw [Bool.or_eq_false_iff, decide_eq_false_iff_not, decide_eq_false_iff_not] at hb2
        refine ⟨_, rfl, eH.trans e3, fun y hy => ?_⟩
        rw [take_succ_of hw] at hy
        rcases List.mem_append.mp hy with hy | hy
        · exact hq y hy
        · rw [List.mem_singleton.mp hy]
          omega
    · rintro σ' H' ⟨o2, rfl, eH, hq⟩
      rw [List.length_map, List.take_length] at hq
      obtain ⟨ts, rfl⟩ := nat_list fun w hw => (hq w hw).1
      have hle : ∀ t ∈ ts, t ≤ ts.length := fun t ht => by
        have := (nat_mem hq ht).2
        rw [List.length_map] at this
        omega
      rw [List.length_map] at hb hl ⊢
      rw [← vn_ints] at hS
      refine s_forR2 (lo := 1) (n := ((ts.length : Int) + 1)) (by walk_at "ea") ⟨by omega, by omega, by omega, by omega⟩ (fun i σ' H' => ∃ o3 o4, σ' = [some (.ref a), some (.int (ts.length : Int)), o2, o3, o4] ∧ Ex H H' ∧ ∀ k, k < i → ∃ j, j ≤ ts.length + 1 ∧ upI ts j (k + 1) = 0) (fun H3 e3 => ⟨none, none, rfl, eH.trans e3, fun k hk => absurd hk (Nat.not_lt_zero _)⟩) ?_ ?_
      · rintro i σ' H' hi ⟨o3, o4, rfl, eH', hled⟩
        have hi2 : i < ts.length := by omega
        refine q_asg ev_c fun H3 e3 => ?_
        refine q_while (fun m σ' H' => ∃ x st : Nat, m = ts.length + 1 - st ∧ st ≤ ts.length + 1 ∧ x ≤ ts.length ∧ upI ts st (i + 1) = x ∧ (∀ r : Nat → Nat, (∀ k, k < ts.length → r (k + 1) ≤ ts.length ∧ r (ts.getD k 0) < r (k + 1)) → r x + st ≤ ts.length) ∧ σ' = [some (.ref a), some (.int (ts.length : Int)), o2, some (.int (x : Int)), some (.int (st : Int))] ∧ Ex H H') (ts.length + 1) ⟨i + 1, 0, rfl, Nat.zero_le _, by omega, rfl, fun r hr => (hr i hi2).1, by rw [Int.add_comm, Int.natCast_add]; rfl, eH'.trans e3⟩ ?_
        rintro m σ' H4 ⟨x, st, rfl, hst, hx, hup, hrk, rfl, e4⟩
        refine ⟨!decide (V.int (x : Int) = V.int 0) && decide ((st : Int) ≤ (ts.length : Int)), et_and (et_test (ev_op (ev_var rfl) ev_c (rv_ne rfl))) fun _ => et_test (by walk_at "ev"), fun hb2 H5 e5 => ?_, fun hb2 H5 e5 => ?_⟩
        · rw [Bool.and_eq_true, decide_eq_true_eq] at hb2
          cases x with
          | zero => exact absurd hb2.1 (by decide)
          | succ k =>
            have hk : k < ts.length := by omega
            refine ⟨fun σ2 H2 => σ2 = [some (.ref a), some (.int (ts.length : Int)), o2, some (.int (ts.getD k 0 : Int)), some (.int ((st + 1 : Nat) : Int))] ∧ Ex H H2, ?_, ?_⟩
            · rintro σ2 H2 ⟨rfl, e2⟩
              refine ⟨ts.length + 1 - (st + 1), by omega, ts.getD k 0, st + 1, rfl, by omega, hle _ (getD_mem hk), ?_, fun r hr => ?_, rfl, e2⟩
              · show upT ts (upI ts st (i + 1)) = _
                rw [hup]
                rfl
              · have h1 := hrk r hr
                have h2 := (hr k hk).2
                omega
            · refine q_asg (v := .int (ts.getD k 0 : Int)) (ev_ixL (i := (k : Int)) (ev_var rfl) (ev_is (ev_op (ev_var rfl) ev_c rv_I0) (congrArg V.int (by omega))) (ex_l (e4.trans e5) hS) (atI_nat (vn_get (getD_some hk)))) fun H6 e6 => ?_
              exact s_asg (ev_is (ev_op (ev_var rfl) ev_c rv_I0) (by rw [Int.natCast_add]; rfl)) fun H7 e7 => ⟨rfl, ((e4.trans e5).trans e6).trans e7⟩
        · refine s_when (b := !decide (V.int (x : Int) = V.int 0)) (et_test (ev_op (ev_var rfl) ev_c (rv_ne rfl))) (fun hb3 H6 e6 => ?_) (fun hb3 H6 e6 => ?_)
          · rw [hb3, Bool.true_and, decide_eq_false_iff_not] at hb2
            refine hE ?_ H6 ((e4.trans e5).trans e6)
            rintro ⟨us, e, hT⟩
            have e2 := map_nat e
            rw [← e2] at hT
            obtain ⟨r, r0, hr⟩ := hT.bound
            have := hrk r hr
            omega
          · have hx0 : x = 0 := by
              have h1 : decide (V.int (x : Int) = V.int 0) = true := by
                cases e : decide (V.int (x : Int) = V.int 0) with
                | true => rfl
                | false =>
                  rw [e] at hb3
                  cases hb3
              have := V.int.inj (of_decide_eq_true h1)
              omega
            refine ⟨_, _, rfl, (e4.trans e5).trans e6, fun k hk => ?_⟩
            by_cases c : k = i
            · rw [c]
              exact ⟨st, hst, by rw [hup, hx0]⟩
            · exact hled k (by omega)
      · rintro σ' H' ⟨o3, o4, rfl, eH', hled⟩
        refine kQ ⟨ts, rfl, tree_led (by omega) (by omega) hle fun k hk => hled k (by omega)⟩ H' eH'

abbrev s_row_of : Stmt := top 17
abbrev N_row_of : List Str := ["parents", "wishes", "line", "place", "boat", "parent"]
theorem sc_row_of : FnScope N_row_of ["parents"] (defScope s_row_of) := ⟨rfl, rfl, rfl, by decide +kernel, rfl, by decide +kernel, by decide +kernel⟩
theorem bw_row_of : BindsWell "row_of" s_row_of ["parents"] := fun _ _ _ _ _ _ us hl => match us, hl with | [_], _ => rfl

def sp_row_of (K : Kf) : Sp := fun vs H Q E => ∃ (a : Addr) (ns : List Int), vs = [.ref a] ∧ SqL K H a (ns.map V.int) ∧ ns.length ≤ 1000 ∧ (¬ GoodT ns → ∀ H', Ex H H' → E (.ref (He.ga K (classAt 3))) none H') ∧ (∀ ts, ns = ts.map Int.ofNat → Tree ts → RetL (vn (rowT ts)) H Q)
theorem ok_row_of (D : Def K mg "row_of" s_row_of) (T : Txt mg) (O_asked_tree : Own P w K mg base (L2.CX P w) 1 "asked_tree" ["parents"] (sp_asked_tree K)) : Own P w K mg base (L2.CX P w) 2 "row_of" ["parents"] (sp_row_of K) := by
  refine D.hot sc_row_of bw_row_of (fun vs H Q E h => ?_) (fun f cdv A outer s H vs Q E hr h => ?_)
  · obtain ⟨a, ns, rfl, _⟩ := h
    rfl
  · obtain ⟨a, ns, rfl, hS, hl, hE, kG⟩ := h
    have hr_asked_tree : Room 1 _ := hr.mono (by decide)
    refine ⟨_, (pss_cons (ps_expr (pe_own (E := E) O_asked_tree hr_asked_tree (passes_call (takes_of rfl rfl rfl rfl) (fun _ _ _ _ h => h)) (pa_cons (pv 0) pa_nil)))
        (pss_cons (ps_setLc (i := 1) (own := [("parent", 5)]) (g := gName 5) rfl sc_row_of.nd rfl rfl (sw_true rfl rfl rfl (by decide +kernel)) (pi_list (pv 0)) (blkOk_by (N := N_row_of) (sc := defScope s_row_of) (by decide +kernel)) (fun _ _ _ _ _ => pg_name (i := 5) sc_row_of.nd rfl (.inl rfl)) (fun _ _ _ _ _ => pts_nil) (fun _ _ _ _ _ => pe_int))
        (pss_cons (ps_set (i := 2) sc_row_of.nd rfl (Or.inl rfl) (pe_lst (pa_cons pe_int pa_nil)))
        (pss_cons (ps_for (passes_of rfl) rfl (pi_range1 (by rfl) T.range (pa_cons (pe_callB cr_len (by rfl) T.len PySem.boot_len (pa_cons (pv 0) pa_nil)) pa_nil)) (pg_name (i := 3) sc_row_of.nd rfl (Or.inl rfl))
        (pss_one (ps_for (passes_of rfl) rfl (pi_range1 (by rfl) T.range (pa_cons (pe_callB cr_len (by rfl) T.len PySem.boot_len (pa_cons (pv 0) pa_nil)) pa_nil)) (pg_name (i := 4) sc_row_of.nd rfl (Or.inl rfl))
          (pss_one (ps_if (pt_cmpR op_eq (pe_ix ix_list (pv 0) (pv 4) (fun _ _ => rfl)) (pe_ix ix_list (pv 2) (pv 3) (fun _ _ => rfl)) (nomark _))
            (pss_cons (ps_asg (pv 3) (pg_sub (pv 1) (pv 4) set_list))
              (pss_one (ps_expr (pe_bm PySem.F.plainAttrs_list PySem.F.slot_list_append PySem.F.type_list_append mt_append (pv 2) (pa_cons (pe_op op_add (pv 4) pe_int) pa_nil)))))
            pss_nil)))))
        (pss_one (ps_ret (pv 1))))))), ?_⟩
    try dsimp only [cxOf]
    rcases Classical.em (GoodT ns) with hg | hb
    rotate_left
    · exact q_dropR (rz_asked_tree (by walk_at "ea") hS hl hb (hE hb))
    obtain ⟨ts, rfl, hR⟩ := hg
    have kQ := kG ts rfl hR
    rw [← vn_ints] at hS
    obtain ⟨r1, r2, r3, r4⟩ := id hR
    refine q_drop (sv_asked_tree (by walk_at "ea") hS hR) fun H1 e1 => ?_
    have hS1 := ex_l e1 hS
    refine q_asgL (xs := wisV ts 0 0) (el_is (el_lcX (K := K) (xs := vn ts) (fun _ => true) (fun _ => V.int 0) (ev_var rfl) hS1 (by rw [vn_len]; omega) (fun _ => rfl) (fun _ _ _ _ => et_yes) (fun _ _ _ _ _ => ev_c)) (wisV_init ts)) fun pp H2 npp e2 hpp => ?_
    refine q_asgL (xs := vn [0]) (el_is (el_lst (ea_cons ev_c ea_nil) (Nat.le_of_ble_eq_true rfl)) rfl) fun lp H3 nlp e3 hlp => ?_
    have eH3 : Ex H H3 := (e1.trans e2).trans e3
    have npp0 : H pp = none := fresh_back e1 npp
    have nlp0 : H lp = none := fresh_back (e1.trans e2) nlp
    have hne : pp ≠ lp := fun z => by
      rw [← z] at nlp
      rw [nlp] at hpp
      cases hpp
    refine q_forR1 (n := (ts.length : Int)) (ea_cons (ev_is (ev_len (K := K) (xs := vn ts) (ev_var rfl) (ex_l eH3 hS)) (by rw [vn_len])) ea_nil) (by omega) (fun i σ' H' => ∃ o3 o4, σ' = [some (.ref a), some (.ref pp), some (.ref lp), o3, o4, none] ∧ Ex H H' ∧ H' lp = some (.lst (vn (lineT ts i))) ∧ H' pp = some (.lst (wisV ts i 0)))
      (fun H4 e4 => ⟨none, none, rfl, eH3.trans e4, e4 _ _ hlp, e4 _ _ (e3 _ _ hpp)⟩) ?_ ?_
    · rintro i σ' H' hi ⟨o3, o4, rfl, eH, hl, hp⟩
      have hi2 : i < ts.length := by omega
      have hlt := hR.line_lt (p := i) (by omega)
      have hle := hR.line_at (p := i) (by omega)
      have hll := hR.line_le (p := i) (by omega)
      refine s_forR1 (n := (ts.length : Int)) (ea_cons (ev_is (ev_len (K := K) (xs := vn ts) (ev_var rfl) (ex_l eH hS)) (by rw [vn_len])) ea_nil) (by omega) (fun j σ' H' => ∃ o4, σ' = [some (.ref a), some (.ref pp), some (.ref lp), some (.int (i : Int)), o4, none] ∧ Ex H H' ∧ H' lp = some (.lst (vn (lineT ts i ++ kidsTo ts ((lineF ts).getD i 0) j))) ∧ H' pp = some (.lst (wisV ts i j)))
        (fun H4 e4 => ⟨o4, rfl, eH.trans e4, by rw [kidsTo_zero, List.append_nil]; exact e4 _ _ hl, e4 _ _ hp⟩) ?_ ?_
      · rintro j σ' H' hj ⟨o4, rfl, eH', hl', hp'⟩
        have hj2 : j < ts.length := by omega
        have hkl := kidsTo_len ts ((lineF ts).getD i 0) j
        have hat : (lineT ts i ++ kidsTo ts ((lineF ts).getD i 0) j)[i]? = some ((lineF ts).getD i 0) := by
          rw [getD_some (by rw [List.length_append]; omega), getD_pre hlt, hle]
        refine s_when (b := decide (ts.getD j 0 = (lineF ts).getD i 0)) (et_is (et_test (ev_op (ev_ixL (ev_var rfl) (ev_var rfl) (ex_l eH' hS) (atI_nat (vn_get (getD_some hj2)))) (ev_ixL (ev_var rfl) (ev_var rfl) (sq_of hl') (atI_nat (vn_get hat))) (rv_eq rfl))) ?_) (fun hb H5 e5 => ?_) (fun hb H5 e5 => ?_)
        · exact decide_eq_decide.mpr ⟨fun h => Int.ofNat.inj (V.int.inj h), fun h => by rw [h]⟩
        · have hb2 := of_decide_eq_true hb
          refine q_setL (j := j) (v := .int (i : Int)) (e5 _ _ hp') (ev_var rfl) (ev_var rfl) (ev_var rfl) (by rw [wisV_len]; exact hj2) fun H6 e6 => ?_
          refine s_app (xs := vn (lineT ts i ++ kidsTo ts ((lineF ts).getD i 0) j)) (v := .int ((j + 1 : Nat) : Int)) (by rw [upd_ne hne.symm]; exact e6 _ _ (e5 _ _ hl')) (ev_var rfl) (ev_is (ev_op (ev_var rfl) ev_c rv_I0) (by rw [Int.natCast_add]; rfl)) (by rw [vn_len, List.length_append]; omega) fun H7 e7 => ?_
          refine ⟨_, rfl, (((eH'.trans e5).trans e6).mut npp0).trans e7 |>.mut nlp0, ?_, ?_⟩
          · rw [upd_same, ← vn_snoc, kidsTo_succ, if_pos hb2, List.append_assoc]
          · rw [upd_ne hne, ← wisV_set hj2 ((hR.idx_iff hj2 (by omega)).mp hb2)]
            exact e7 _ _ upd_same
        · have hb2 := of_decide_eq_false hb
          refine ⟨_, rfl, eH'.trans e5, ?_, ?_⟩
          · rw [kidsTo_succ, if_neg hb2, List.append_nil]
            exact e5 _ _ hl'
          · rw [wisV_skip fun z => hb2 ((hR.idx_iff hj2 (by omega)).mpr z)]
            exact e5 _ _ hp'
      · rintro σ' H' ⟨o4, rfl, eH', hl', hp'⟩
        rw [Int.toNat_natCast] at hl' hp'
        rw [wisV_next] at hp'
        refine ⟨_, _, rfl, eH', ?_, hp'⟩
        show H' lp = some (.lst (vn (lineT ts i ++ kids ts ((lineT ts i).getD i 0))))
        rw [hle]
        exact hl'
    · rintro σ' H' ⟨o3, o4, rfl, eH, hl, hp⟩
      rw [Int.toNat_natCast, wisV_end hR] at hp
      refine s_ret (by walk_at "ev") fun H4 e4 => ?_
      exact kQ pp H4 npp0 (eH.trans e4) (e4 _ _ hp)

abbrev s_asked : Stmt := top 10
abbrev N_asked : List Str := ["long", "wishes", "wish"]
theorem sc_asked : FnScope N_asked ["long", "wishes"] (defScope s_asked) := ⟨rfl, rfl, rfl, by decide +kernel, rfl, by decide +kernel, by decide +kernel⟩
theorem bw_asked : BindsWell "asked" s_asked ["long", "wishes"] := fun _ _ _ _ _ _ us hl => match us, hl with | [_, _], _ => rfl

/-- asked of a good row -/
def sp_asked (K : Kf) : Sp := fun vs H Q _ => ∃ (a : Addr) (long : Nat) (ws : List Nat), vs = [.int (long : Int), .ref a] ∧ SqL K H a (vn ws) ∧ Row long ws ∧ RetV .non H Q
theorem sv_asked {K : Kf} {σ : L2.St} {H : Hp} {E : XK} {ta : TA} {a : Addr} {long : Nat} {ws : List Nat} (h : EvA ta σ H [.int (long : Int), .ref a]) (hS : SqL K H a (vn ws)) (hR : Row long ws) : Ev (tCall (sp_asked K) [] E ta) σ H .non :=
  ev_callV h fun H1 e Q q E => ⟨a, long, ws, rfl, ex_l e hS, hR, q⟩
theorem ok_asked (D : Def K mg "asked" s_asked) (T : Txt mg) {tLONGEST : Tok} (cLONGEST : mg "LONGEST" = some (.int 40 tLONGEST)) : Own P w K mg base CX0 1 "asked" ["long", "wishes"] (sp_asked K) := by
  refine D.calm sc_asked bw_asked (fun vs H Q E h => ?_) (fun f cdv A outer s H vs Q E hr h => ?_)
  · obtain ⟨a, long, ws, rfl, _⟩ := h
    rfl
  · obtain ⟨a, long, ws, rfl, hS, hR, kQ⟩ := h
    refine ⟨_, (pss_cons (ps_if (PW.pt (pw_or (pt_cmpR op_lt (pv 0) pe_int (nomark _)) (pw_or1 (pt_cmpR op_gt (pv 0) (pe_glob (v := .int 40) rfl cLONGEST ⟨_, rfl⟩) (nomark _)))))
        (pss_one ps_never)
        pss_nil)
        (pss_cons (ps_if (pt_cmpR op_gt (pe_callB cr_len (by rfl) T.len PySem.boot_len (pa_cons (pv 1) pa_nil)) (pv 0) (nomark _))
        (pss_one ps_never)
        pss_nil)
        (pss_one (ps_for PassesOwn.never rfl (pi_list (pv 1)) (pg_name (i := 2) sc_asked.nd rfl (Or.inl rfl))
        (pss_one (ps_if (PW.pt (pw_or (pt_cmpR op_lt (pv 2) pe_int (nomark _)) (pw_or1 (pt_cmpR op_ge (pv 2) (pv 0) (nomark _)))))
          (pss_one ps_never)
          pss_nil)))))), ?_⟩
    try dsimp only [cxOf]
    obtain ⟨r1, r2, r3, r4⟩ := hR
    refine q_when (b := false) (et_is (by walk_at "et") ?_) (fun h => by cases h) fun _ H1 e1 => ?_
    · rw [Bool.or_eq_false_iff, decide_eq_false_iff_not, decide_eq_false_iff_not]
      omega
    refine q_when (b := false) (et_is (by walk_at "et") ?_) (fun h => by cases h) fun _ H2 e2 => ?_
    · rw [vn_len, decide_eq_false_iff_not]
      omega
    refine s_forLn (K := K) (a := a) (xs := vn ws) (by walk_at "ev") (by walk_at "sq") (fun i σ' H' => ∃ o, σ' = [some (.int (long : Int)), some (.ref a), o] ∧ Ex H H') (fun H3 e3 => ⟨none, rfl, by walk_at "ex"⟩) (fun i σ' H' _ p => ?_) ?_ ?_
    · obtain ⟨_, _, eH⟩ := p
      exact ex_l eH hS
    · rintro i x σ' H' hx ⟨o, rfl, eH⟩
      obtain ⟨w, rfl, hw, hi, hm⟩ := vn_at hx
      have := r4 w hm
      refine s_when (b := false) (et_is (by walk_at "et") ?_) (fun h => by cases h) fun _ H3 e3 => ?_
      · rw [Bool.or_eq_false_iff, decide_eq_false_iff_not, decide_eq_false_iff_not]
        omega
      · exact ⟨_, rfl, by walk_at "ex"⟩
    · rintro σ' H' ⟨o, rfl, eH⟩
      exact kQ H' eH

abbrev s_crowd : Stmt := top 11
abbrev N_crowd : List Str := ["long", "wishes", "many", "place", "wish"]
theorem sc_crowd : FnScope N_crowd ["long", "wishes"] (defScope s_crowd) := ⟨rfl, rfl, rfl, by decide +kernel, rfl, by decide +kernel, by decide +kernel⟩
theorem bw_crowd : BindsWell "crowd" s_crowd ["long", "wishes"] := fun _ _ _ _ _ _ us hl => match us, hl with | [_, _], _ => rfl

def sp_crowd (K : Kf) : Sp := fun vs H Q _ => ∃ (a : Addr) (long : Nat) (ws : List Nat), vs = [.int (long : Int), .ref a] ∧ SqL K H a (vn ws) ∧ Row long ws ∧ RetV (vo (crowdL long ws)) H Q
theorem sv_crowd {K : Kf} {σ : L2.St} {H : Hp} {E : XK} {ta : TA} {a : Addr} {long : Nat} {ws : List Nat} (h : EvA ta σ H [.int (long : Int), .ref a]) (hS : SqL K H a (vn ws)) (hR : Row long ws) : Ev (tCall (sp_crowd K) [] E ta) σ H (vo (crowdL long ws)) :=
  ev_callV h fun H1 e Q q E => ⟨a, long, ws, rfl, ex_l e hS, hR, q⟩
theorem ok_crowd (D : Def K mg "crowd" s_crowd) (T : Txt mg) (O_asked : Own P w K mg base CX0 1 "asked" ["long", "wishes"] (sp_asked K)) : Own P w K mg base CX0 2 "crowd" ["long", "wishes"] (sp_crowd K) := by
  refine D.calm sc_crowd bw_crowd (fun vs H Q E h => ?_) (fun f cdv A outer s H vs Q E hr h => ?_)
  · obtain ⟨a, long, ws, rfl, _⟩ := h
    rfl
  · obtain ⟨a, long, ws, rfl, hS, hR, kQ⟩ := h
    have hr_asked : Room 1 _ := hr.mono (by decide)
    refine ⟨_, (pss_cons (ps_expr (pe_own O_asked hr_asked pass0 (pa_cons (pv 0) (pa_cons (pv 1) pa_nil))))
        (pss_cons (ps_set (i := 2) sc_crowd.nd rfl (Or.inl rfl) pe_int)
        (pss_cons (ps_for PassesOwn.never rfl (pi_revR (by rfl) T.reversed (prg_1 (by rfl) T.range (pv 0))) (pg_name (i := 3) sc_crowd.nd rfl (Or.inr rfl))
        (pss_cons (ps_set (i := 2) sc_crowd.nd rfl (Or.inl rfl) (pe_op op_add (pv 2) (pe_callB cr_len (by rfl) T.len PySem.boot_len (pa_cons (pe_lc (own := [("wish", 4)]) (g := gName 4) rfl sc_crowd.nd (pi_list (pv 1)) (blkOk_by (N := N_crowd) (sc := defScope s_crowd) (by decide +kernel)) (fun _ _ _ _ _ => pg_name (i := 4) sc_crowd.nd rfl (.inl rfl)) (fun _ _ _ _ _ => (pts_one (pt_cmpR op_eq (pv 4) (pv 3) (nomark _)))) (fun _ _ _ _ _ => (pv 4))) pa_nil))))
          (pss_one (ps_if (pt_cmpR op_gt (pv 2) (pe_op op_sub (pv 0) (pv 3)) (nomark _))
          (pss_one (ps_ret (pv 3)))
          pss_nil))))
        (pss_one (ps_ret pe_non))))), ?_⟩
    try dsimp only [cxOf]
    obtain ⟨r1, r2, r3, r4⟩ := id hR
    refine q_drop (sv_asked (by walk_at "ea") hS hR) fun H1 e1 => ?_
    refine q_asg (by walk_at "ev") fun H2 e2 => ?_
    refine q_forRev (n := long) (by walk_at "ev") (by omega) (fun i σ' H' => ∃ o3, σ' = [some (.int (long : Int)), some (.ref a), some (.int ((cnt ws (long - i) : Nat) : Int)), o3, none] ∧ Ex H H' ∧ ∀ q, long - i ≤ q → q < long → cnt ws q ≤ long - q)
      (fun H3 e3 => ⟨none, by rw [Nat.sub_zero, cnt_top r4]; rfl, by walk_at "ex", fun q h1 h2 => by omega⟩) ?_ ?_
    · rintro i p σ' H' hi ⟨o3, rfl, eH, hq⟩
      have hS' : SqL K H' a (vn ws) := ex_l eH hS
      refine q_asg (ev_op (ev_var rfl) (ev_count (K := K) (ws := ws) (fun w => decide (w = p)) (ev_var rfl) hS' (by omega) (fun _ => rfl) (fun _ => rfl) fun w H3 e3 hm => et_is (et_test (ev_op (ev_var rfl) (ev_var rfl) (rv_eq rfl))) ?_) rv_I0) fun H4 e4 => ?_
      · exact decide_eq_decide.mpr ⟨fun h => Int.ofNat.inj (V.int.inj h), fun h => by rw [h]⟩
      have ec : ((cnt ws (long - i) : Nat) : Int) + ((ws.countP (fun w => decide (w = p)) : Nat) : Int) = ((cnt ws p : Nat) : Int) := by
        rw [cnt_succ ws p]
        have e1 : p + 1 = long - i := by omega
        rw [e1]
        unfold cAt
        rw [Int.natCast_add]
      rw [ec]
      refine s_when (by walk_at "et") (fun hb H5 e5 => ?_) (fun hb H5 e5 => ?_)
      · have hb2 := of_decide_eq_true hb
        refine s_ret (by walk_at "ev") fun H6 e6 => ?_
        have hc : CrowdIs long ws (some p) := ⟨by omega, by omega, fun q h1 h2 => hq q (by omega) h2⟩
        have := kQ H6 (by walk_at "ex")
        rw [(crowdL_is long ws).uniq hc] at this
        exact this
      · have hb2 := of_decide_eq_false hb
        refine ⟨some (.int (p : Int)), ?_, (eH.trans e4).trans e5, fun q h1 h2 => ?_⟩
        · have e1 : long - (i + 1) = p := by omega
          rw [e1]
          rfl
        · by_cases e : q = p
          · rw [e]
            omega
          · exact hq q (by omega) h2
    · rintro σ' H' ⟨o3, rfl, eH, hq⟩
      refine s_ret (by walk_at "ev") fun H6 e6 => ?_
      have hc : CrowdIs long ws none := fun p hp => hq p (by omega) hp
      have := kQ H6 (by walk_at "ex")
      rw [(crowdL_is long ws).uniq hc] at this
      exact this

abbrev s_asked_whole : Stmt := top 12
abbrev N_asked_whole : List Str := ["wishes", "most", "wish"]
theorem sc_asked_whole : FnScope N_asked_whole ["wishes", "most"] (defScope s_asked_whole) := ⟨rfl, rfl, rfl, by decide +kernel, rfl, by decide +kernel, by decide +kernel⟩
theorem bw_asked_whole : BindsWell "asked_whole" s_asked_whole ["wishes", "most"] := fun _ _ _ _ _ _ us hl => match us, hl with | [_, _], _ => rfl

def sp_asked_whole (K : Kf) : Sp := fun vs H Q E => ∃ (a : Addr) (ns : List Int) (m : Int), vs = [.ref a, .int m] ∧ SqL K H a (ns.map V.int) ∧ ns.length ≤ 1000 ∧ m ≤ 40 ∧ (¬ GoodR m ns → ∀ H', Ex H H' → E (.ref (He.ga K (classAt 1))) none H') ∧ (GoodR m ns → RetV .non H Q)
theorem sv_asked_whole {K : Kf} {σ : L2.St} {H : Hp} {E : XK} {ta : TA} {a : Addr} {ws : List Nat} {m : Int} (h : EvA ta σ H [.ref a, .int m]) (hS : SqL K H a (vn ws)) (hR : WRow ws) (hm : (ws.length : Int) ≤ m) (h40 : m ≤ 40 := by decide) : Ev (tCall (sp_asked_whole K) [] E ta) σ H .non :=
  ev_callV h fun H1 e Q q E => ⟨a, ws.map Int.ofNat, m, rfl, by rw [← vn_ints]; exact ex_l e hS, by rw [List.length_map]; have := hR.hi; omega, h40, fun hb => absurd ⟨ws, rfl, hR, hm⟩ hb, fun _ => q⟩
theorem rz_asked_whole {K : Kf} {σ : L2.St} {H : Hp} {E : XK} {ta : TA} {a : Addr} {ns : List Int} {m : Int} (h : EvA ta σ H [.ref a, .int m]) (hS : SqL K H a (ns.map V.int)) (hl : ns.length ≤ 1000) (hb : ¬ GoodR m ns) (hE : ∀ H', Ex H H' → E (.ref (He.ga K (classAt 1))) none H') (h40 : m ≤ 40 := by decide) : Rz (tCall (sp_asked_whole K) [] E ta) σ H :=
  rz_call h fun H1 e Q => ⟨a, ns, m, rfl, ex_l e hS, hl, h40, fun _ H' e2 => hE H' (e.trans e2), fun hg => absurd hg hb⟩
theorem WRow.crowd {ws : List Nat} (h : WRow ws) : crowdL ws.length ws = none := (crowdL_is ws.length ws).uniq (b := none) h.wh
theorem ok_asked_whole (D : Def K mg "asked_whole" s_asked_whole) (T : Txt mg) (E_NoRow : Exc K mg "NoRow") (O_crowd : Own P w K mg base CX0 2 "crowd" ["long", "wishes"] (sp_crowd K)) : Own P w K mg base (L2.CX P w) 3 "asked_whole" ["wishes", "most"] (sp_asked_whole K) := by
  refine D.hot sc_asked_whole bw_asked_whole (fun vs H Q E h => ?_) (fun f cdv A outer s H vs Q E hr h => ?_)
  · obtain ⟨a, ns, m, rfl, _⟩ := h
    rfl
  · obtain ⟨a, ns, m, rfl, hS, hl, h40, hE, kQ⟩ := h
    have hr_crowd : Room 2 _ := hr.mono (by decide)
    refine ⟨_, (pss_cons (ps_if (PW.pt (pw_or (pt_cmpR op_lt (pe_callB cr_len (by rfl) T.len PySem.boot_len (pa_cons (pv 0) pa_nil)) pe_int (nomark _)) (pw_or1 (pt_cmpR op_gt (pe_callB cr_len (by rfl) T.len PySem.boot_len (pa_cons (pv 0) pa_nil)) (pv 1) (nomark _)))))
        (pss_one (ps_raise rfl (takes_of rfl rfl rfl rfl) (pmk_own PySem.F.excBase_ValueError E_NoRow.x E_NoRow.g E_NoRow.k (raises_own E_NoRow.b E_NoRow.t) rfl)))
        pss_nil)
        (pss_cons (ps_for (passes_of rfl) rfl (pi_list (pv 0)) (pg_name (i := 2) sc_asked_whole.nd rfl (Or.inl rfl))
        (pss_one (ps_if (PW.pt (pw_or (pt_cmpR op_lt (pv 2) pe_int (nomark _)) (pw_or1 (pt_cmpR op_ge (pv 2) (pe_callB cr_len (by rfl) T.len PySem.boot_len (pa_cons (pv 0) pa_nil)) (nomark _)))))
          (pss_one (ps_raise rfl (takes_of rfl rfl rfl rfl) (pmk_own PySem.F.excBase_ValueError E_NoRow.x E_NoRow.g E_NoRow.k (raises_own E_NoRow.b E_NoRow.t) rfl)))
          pss_nil)))
        (pss_one (ps_if (pt_cmpR op_notN (pe_own O_crowd hr_crowd pass0 (pa_cons (pe_callB cr_len (by rfl) T.len PySem.boot_len (pa_cons (pv 0) pa_nil)) (pa_cons (pv 0) pa_nil))) pe_non (nomark _))
        (pss_one (ps_raise rfl (takes_of rfl rfl rfl rfl) (pmk_own PySem.F.excBase_ValueError E_NoRow.x E_NoRow.g E_NoRow.k (raises_own E_NoRow.b E_NoRow.t) rfl)))
        pss_nil)))), ?_⟩
    try dsimp only [cxOf]
    refine q_when (et_or (et_test (ev_op (ev_is (ev_len (K := K) (ev_var rfl) hS) (by rw [List.length_map])) ev_c rv_I0)) fun _ => et_test (ev_op (ev_is (ev_len (K := K) (ev_var rfl) hS) (by rw [List.length_map])) (ev_var rfl) rv_I0)) (fun hb H2 e2 => ?_) (fun hb H2 e2 => ?_)
    · rw [Bool.or_eq_true, decide_eq_true_eq, decide_eq_true_eq] at hb
      exact hE (no_rlen (by omega)) H2 e2
    rw [Bool.or_eq_false_iff, decide_eq_false_iff_not, decide_eq_false_iff_not] at hb
    refine q_forLn (K := K) (a := a) (xs := ns.map V.int) (by walk_at "ev") (ex_l e2 hS) (fun i σ' H' => ∃ o, σ' = [some (.ref a), some (.int m), o] ∧ Ex H H' ∧ ∀ w ∈ ns.take i, 0 ≤ w ∧ w < ns.length) (fun H3 e3 => ⟨none, rfl, e2.trans e3, fun w hw => by cases hw⟩) (fun i σ' H' _ p => ?_) ?_ ?_
    · obtain ⟨_, _, eH, _⟩ := p
      exact ex_l eH hS
    · rintro i x σ' H' hx ⟨o, rfl, eH, hq⟩
      obtain ⟨w, rfl, hw, hi, hm, _⟩ := map_at hx
      refine s_when (et_or (et_test (by walk_at "ev")) fun _ => et_test (ev_op (ev_var rfl) (ev_is (ev_len (K := K) (ev_var rfl) (ex_l eH hS)) (by rw [List.length_map])) rv_I0)) (fun hb2 H3 e3 => ?_) (fun hb2 H3 e3 => ?_)
      · rw [Bool.or_eq_true, decide_eq_true_eq, decide_eq_true_eq] at hb2
        exact hE (no_wish hm hb2) H3 (eH.trans e3)
      · rw [Bool.or_eq_false_iff, decide_eq_false_iff_not, decide_eq_false_iff_not] at hb2
        refine ⟨_, rfl, eH.trans e3, fun y hy => ?_⟩
        rw [take_succ_of hw] at hy
        rcases List.mem_append.mp hy with hy | hy
        · exact hq y hy
        · rw [List.mem_singleton.mp hy]
          omega
    · rintro σ' H' ⟨o, rfl, eH, hq⟩
      rw [List.length_map, List.take_length] at hq
      obtain ⟨ws, rfl⟩ := nat_list fun w hw => (hq w hw).1
      have hlt : ∀ w ∈ ws, w < ws.length := fun w hw => by
        have := (nat_mem hq hw).2
        rw [List.length_map] at this
        omega
      rw [List.length_map] at hb
      rw [← vn_ints] at hS
      have hS' := ex_l eH hS
      have hRw : Row ws.length ws := ⟨by omega, by omega, Nat.le_refl _, hlt⟩
      refine s_when (b := !decide (crowdL ws.length ws = none)) (et_is (et_test (ev_op (sv_crowd (K := K) (long := ws.length) (ws := ws) (ea_cons (ev_is (ev_len (K := K) (xs := vn ws) (ev_var rfl) hS') (by rw [vn_len])) (by walk_at "ea")) hS' hRw) ev_c rv_notN)) ?_) (fun hb2 H3 e3 => ?_) (fun hb2 H3 e3 => ?_)
      · refine congrArg (!·) (decide_eq_decide.mpr ⟨fun h => ?_, fun h => by rw [h]; rfl⟩)
        exact vo_inj (b := none) h
      · refine hE ?_ H3 (eH.trans e3)
        rintro ⟨us, e, hW, _⟩
        have e2 := map_nat e
        rw [← e2] at hW
        rw [hW.crowd] at hb2
        cases hb2
      · have hc : crowdL ws.length ws = none := by
          by_cases c : crowdL ws.length ws = none
          · exact c
          · rw [decide_eq_false c] at hb2
            cases hb2
        have hcr := crowdL_is ws.length ws
        rw [hc] at hcr
        exact kQ ⟨ws, rfl, ⟨by omega, by omega, hlt, hcr⟩, by omega⟩ H3 (eH.trans e3)

abbrev s_tree_of : Stmt := top 15
abbrev N_tree_of : List Str := ["wishes", "line", "parents", "place", "boat", "wish"]
theorem sc_tree_of : FnScope N_tree_of ["wishes"] (defScope s_tree_of) := ⟨rfl, rfl, rfl, by decide +kernel, rfl, by decide +kernel, by decide +kernel⟩
theorem bw_tree_of : BindsWell "tree_of" s_tree_of ["wishes"] := fun _ _ _ _ _ _ us hl => match us, hl with | [_], _ => rfl

def sp_tree_of (K : Kf) : Sp := fun vs H Q E => ∃ (a : Addr) (ns : List Int), vs = [.ref a] ∧ SqL K H a (ns.map V.int) ∧ ns.length ≤ 1000 ∧ (¬ GoodR 39 ns → ∀ H', Ex H H' → E (.ref (He.ga K (classAt 1))) none H') ∧ (∀ ws, ns = ws.map Int.ofNat → WRow ws → ws.length ≤ 39 → RetL (vn (treeW ws)) H Q)
theorem ok_tree_of (D : Def K mg "tree_of" s_tree_of) (T : Txt mg) {tMOST : Tok} (cMOST : mg "MOST" = some (.int 39 tMOST)) (O_asked_whole : Own P w K mg base (L2.CX P w) 3 "asked_whole" ["wishes", "most"] (sp_asked_whole K)) : Own P w K mg base (L2.CX P w) 4 "tree_of" ["wishes"] (sp_tree_of K) := by
  refine D.hot sc_tree_of bw_tree_of (fun vs H Q E h => ?_) (fun f cdv A outer s H vs Q E hr h => ?_)
  · obtain ⟨a, ns, rfl, _⟩ := h
    rfl
  · obtain ⟨a, ns, rfl, hS, hl, hE, kG⟩ := h
    have hr_asked_whole : Room 3 _ := hr.mono (by decide)
    refine ⟨_, (pss_cons (ps_expr (pe_own (E := E) O_asked_whole hr_asked_whole (passes_call (takes_of rfl rfl rfl rfl) (fun _ _ _ _ h => h)) (pa_cons (pv 0) (pa_cons (pe_glob (v := .int 39) rfl cMOST ⟨_, rfl⟩) pa_nil))))
        (pss_cons (ps_set (i := 1) sc_tree_of.nd rfl (Or.inl rfl) (pe_lst (pa_cons pe_int pa_nil)))
        (pss_cons (ps_setLc (i := 2) (own := [("wish", 5)]) (g := gName 5) rfl sc_tree_of.nd rfl rfl (sw_true rfl rfl rfl (by decide +kernel)) (pi_list (pv 0)) (blkOk_by (N := N_tree_of) (sc := defScope s_tree_of) (by decide +kernel)) (fun _ _ _ _ _ => pg_name (i := 5) sc_tree_of.nd rfl (.inl rfl)) (fun _ _ _ _ _ => pts_nil) (fun _ _ _ _ _ => pe_int))
        (pss_cons (ps_for (passes_of rfl) rfl (pi_range1 (by rfl) T.range (pa_cons (pe_callB cr_len (by rfl) T.len PySem.boot_len (pa_cons (pv 0) pa_nil)) pa_nil)) (pg_name (i := 3) sc_tree_of.nd rfl (Or.inl rfl))
        (pss_one (ps_for (passes_of rfl) rfl (pi_range1 (by rfl) T.range (pa_cons (pe_callB cr_len (by rfl) T.len PySem.boot_len (pa_cons (pv 0) pa_nil)) pa_nil)) (pg_name (i := 4) sc_tree_of.nd rfl (Or.inl rfl))
          (pss_one (ps_if (pt_cmpR op_eq (pe_ix ix_list (pv 0) (pv 4) (fun _ _ => rfl)) (pv 3) (nomark _))
            (pss_cons (ps_asg (pe_ix ix_list (pv 1) (pv 3) (fun _ _ => rfl)) (pg_sub (pv 2) (pv 4) set_list))
              (pss_one (ps_expr (pe_bm PySem.F.plainAttrs_list PySem.F.slot_list_append PySem.F.type_list_append mt_append (pv 1) (pa_cons (pe_op op_add (pv 4) pe_int) pa_nil)))))
            pss_nil)))))
        (pss_one (ps_ret (pv 2))))))), ?_⟩
    try dsimp only [cxOf]
    rcases Classical.em (GoodR 39 ns) with hg | hb
    rotate_left
    · exact q_dropR (rz_asked_whole (by walk_at "ea") hS hl hb (hE hb))
    obtain ⟨ws, rfl, hR, h39i⟩ := hg
    have h39 : ws.length ≤ 39 := by omega
    have kQ := kG ws rfl hR h39
    rw [← vn_ints] at hS
    obtain ⟨r1, r2, r3, r4⟩ := id hR
    refine q_drop (sv_asked_whole (m := 39) (by walk_at "ea") hS hR (by omega)) fun H1 e1 => ?_
    have hS1 := ex_l e1 hS
    refine q_asgL (xs := vn [0]) (el_is (el_lst (ea_cons ev_c ea_nil) (Nat.le_of_ble_eq_true rfl)) rfl) fun lp H2 nlp e2 hlp => ?_
    refine q_asgL (xs := parV ws (V.int 0) 0 0) (el_is (el_lcX (K := K) (xs := vn ws) (fun _ => true) (fun _ => (V.int 0)) (ev_var rfl) (ex_l e2 hS1) (by rw [vn_len]; omega) (fun _ => rfl) (fun _ _ _ _ => et_yes) (fun _ _ _ _ _ => ev_c)) (parV_init ws (V.int 0))) fun pp H3 npp e3 hpp => ?_
    have eH3 : Ex H H3 := (e1.trans e2).trans e3
    have nlp0 : H lp = none := fresh_back e1 nlp
    have npp0 : H pp = none := fresh_back (e1.trans e2) npp
    have hne : pp ≠ lp := fun z => by
      rw [z] at npp
      rw [npp] at hlp
      cases hlp
    refine q_forR1 (n := (ws.length : Int)) (ea_cons (ev_is (ev_len (K := K) (xs := vn ws) (ev_var rfl) (ex_l eH3 hS)) (by rw [vn_len])) ea_nil) (by omega) (fun i σ' H' => ∃ o3 o4, σ' = [some (.ref a), some (.ref lp), some (.ref pp), o3, o4, none] ∧ Ex H H' ∧ H' lp = some (.lst (vn (lineW ws i))) ∧ H' pp = some (.lst (parV ws (V.int 0) i 0)))
      (fun H4 e4 => ⟨none, none, rfl, eH3.trans e4, e4 _ _ (e3 _ _ hlp), e4 _ _ hpp⟩) ?_ ?_
    · rintro i σ' H' hi ⟨o3, o4, rfl, eH, hl, hp⟩
      have hi2 : i < ws.length := by omega
      have hll := lineW_len (ws := ws) i
      have hlt := hR.line_lt (p := i) (by omega)
      have hle := hR.line_at (p := i) (by omega)
      refine s_forR1 (n := (ws.length : Int)) (ea_cons (ev_is (ev_len (K := K) (xs := vn ws) (ev_var rfl) (ex_l eH hS)) (by rw [vn_len])) ea_nil) (by omega) (fun j σ' H' => ∃ o4, σ' = [some (.ref a), some (.ref lp), some (.ref pp), some (.int (i : Int)), o4, none] ∧ Ex H H' ∧ H' lp = some (.lst (vn (lineW ws i ++ kidsTo ws i j))) ∧ H' pp = some (.lst (parV ws (V.int 0) i j)))
        (fun H4 e4 => ⟨o4, rfl, eH.trans e4, by rw [kidsTo_zero, List.append_nil]; exact e4 _ _ hl, e4 _ _ hp⟩) ?_ ?_
      · rintro j σ' H' hj ⟨o4, rfl, eH', hl', hp'⟩
        have hj2 : j < ws.length := by omega
        have hkl := kidsTo_len ws i j
        refine s_when (b := decide (ws.getD j 0 = i)) (et_is (et_test (ev_op (ev_ixL (ev_var rfl) (ev_var rfl) (ex_l eH' hS) (atI_nat (vn_get (getD_some hj2)))) (ev_var rfl) (rv_eq rfl))) ?_) (fun hb H5 e5 => ?_) (fun hb H5 e5 => ?_)
        · exact decide_eq_decide.mpr ⟨fun h => Int.ofNat.inj (V.int.inj h), fun h => by rw [h]⟩
        · have hb2 := of_decide_eq_true hb
          have hat : (lineW ws i ++ kidsTo ws i j)[i]? = some ((lineE ws).getD i 0) := by
            rw [getD_some (by rw [List.length_append]; omega), getD_pre hlt, hle]
          refine q_setL (j := j) (v := .int ((lineE ws).getD i 0 : Int)) (e5 _ _ hp') (ev_ixL (ev_var rfl) (ev_var rfl) (sq_of (e5 _ _ hl')) (atI_nat (vn_get hat))) (ev_var rfl) (ev_var rfl) (by rw [parV_len]; exact hj2) fun H6 e6 => ?_
          refine s_app (xs := vn (lineW ws i ++ kidsTo ws i j)) (v := .int ((j + 1 : Nat) : Int)) (by rw [upd_ne hne.symm]; exact e6 _ _ (e5 _ _ hl')) (ev_var rfl) (ev_is (ev_op (ev_var rfl) ev_c rv_I0) (by rw [Int.natCast_add]; rfl)) (by rw [vn_len, List.length_append]; omega) fun H7 e7 => ?_
          refine ⟨_, rfl, (((eH'.trans e5).trans e6).mut npp0).trans e7 |>.mut nlp0, ?_, ?_⟩
          · rw [upd_same, ← vn_snoc, kidsTo_succ, if_pos hb2, List.append_assoc]
          · rw [upd_ne hne, ← parV_set hj2 hb2]
            exact e7 _ _ upd_same
        · have hb2 := of_decide_eq_false hb
          refine ⟨_, rfl, eH'.trans e5, ?_, ?_⟩
          · rw [kidsTo_succ, if_neg hb2, List.append_nil]
            exact e5 _ _ hl'
          · rw [parV_skip hb2]
            exact e5 _ _ hp'
      · rintro σ' H' ⟨o4, rfl, eH', hl', hp'⟩
        rw [Int.toNat_natCast] at hl' hp'
        rw [parV_next] at hp'
        exact ⟨_, _, rfl, eH', hl', hp'⟩
    · rintro σ' H' ⟨o3, o4, rfl, eH, hl, hp⟩
      rw [Int.toNat_natCast, parV_end r3] at hp
      refine s_ret (by walk_at "ev") fun H4 e4 => ?_
      exact kQ pp H4 npp0 (eH.trans e4) (e4 _ _ hp)

abbrev s_l_word_of : Stmt := top 21
abbrev N_l_word_of : List Str := ["e", "kinds"]
theorem sc_l_word_of : FnScope N_l_word_of ["e"] (defScope s_l_word_of) := ⟨rfl, rfl, rfl, by decide +kernel, rfl, by decide +kernel, by decide +kernel⟩
theorem bw_l_word_of : BindsWell "_law_word_of" s_l_word_of ["e"] := fun _ _ _ _ _ _ us hl => match us, hl with | [_], _ => rfl

theorem ok_l_word_of (D : Def K mg "_law_word_of" s_l_word_of) (T : Txt mg) (gNoQuay : mg "NoQuay" = some (.ref (He.ga K "NoQuay"))) (gNoTree : mg "NoTree" = some (.ref (He.ga K "NoTree"))) (gNoOutcome : mg "NoOutcome" = some (.ref (He.ga K "NoOutcome"))) (gNoRow : mg "NoRow" = some (.ref (He.ga K "NoRow"))) (gNoRank : mg "NoRank" = some (.ref (He.ga K "NoRank"))) (gNoNote : mg "NoNote" = some (.ref (He.ga K "NoNote"))) : OwnP P w K mg base 1 "_law_word_of" ["e"] (sp_l_word_of K) := by
  refine D.pinned sc_l_word_of bw_l_word_of (fun p vs H Q E h => ?_) (fun p f cdv A outer s H vs Q E hr h => ?_)
  · obtain ⟨_, _, rfl, _⟩ := h
    rfl
  · obtain ⟨D0, i, rfl, hz, hf, hi, hw, kQ⟩ := h
    refine ⟨_, (pss_cons (ps_set (i := 1) sc_l_word_of.nd rfl (Or.inl rfl) (pe_lst (pa_cons (pe_callB (call_isP (p := p) List.mem_cons_self hw.c hz hf) (by rfl) T.isinstance (by decide +kernel) (pa_cons (pv 0) (pa_cons (pe_glob (v := .ref _) rfl gNoQuay rfl) pa_nil))) (pa_cons (pe_callB (call_isP (p := p) List.mem_cons_self hw.c hz hf) (by rfl) T.isinstance (by decide +kernel) (pa_cons (pv 0) (pa_cons (pe_glob (v := .ref _) rfl gNoRow rfl) pa_nil))) (pa_cons (pe_callB (call_isP (p := p) List.mem_cons_self hw.c hz hf) (by rfl) T.isinstance (by decide +kernel) (pa_cons (pv 0) (pa_cons (pe_glob (v := .ref _) rfl gNoOutcome rfl) pa_nil))) (pa_cons (pe_callB (call_isP (p := p) List.mem_cons_self hw.c hz hf) (by rfl) T.isinstance (by decide +kernel) (pa_cons (pv 0) (pa_cons (pe_glob (v := .ref _) rfl gNoTree rfl) pa_nil))) pa_nil))))))
        (pss_cons (ps_set (i := 1) sc_l_word_of.nd rfl (Or.inl rfl) (pe_op op_cat (pv 1) (pe_lst (pa_cons (pe_callB (call_isP (p := p) List.mem_cons_self hw.c hz hf) (by rfl) T.isinstance (by decide +kernel) (pa_cons (pv 0) (pa_cons (pe_glob (v := .ref _) rfl gNoRank rfl) pa_nil))) (pa_cons (pe_callB (call_isP (p := p) List.mem_cons_self hw.c hz hf) (by rfl) T.isinstance (by decide +kernel) (pa_cons (pv 0) (pa_cons (pe_glob (v := .ref _) rfl gNoNote rfl) pa_nil))) pa_nil)))))
        (pss_cons (ps_if (PW.pt (pw_or (pt_cmpR op_ne (pe_bm PySem.F.plainAttrs_list PySem.F.slot_list_count PySem.F.type_list_count mt_cntB (pv 1) (pa_cons pe_bl pa_nil)) pe_int (nomark _)) (pw_or1 (pt_not (pt_val (pe_callB (call_isP (p := p) List.mem_cons_self hw.c hz hf) (by rfl) T.isinstance (by decide +kernel) (pa_cons (pv 0) (pa_cons (pe_bltn (v := .ty "ValueError") (by rfl) T.ValueError (by decide +kernel) rfl) pa_nil))))))))
        (pss_one (ps_ret pe_str))
        pss_nil)
        (pss_one (ps_ret (pe_ix ix_list (pe_lst (pa_cons pe_str (pa_cons pe_str (pa_cons pe_str (pa_cons pe_str (pa_cons pe_str (pa_cons pe_str pa_nil))))))) (pe_bm PySem.F.plainAttrs_list PySem.F.slot_list_index PySem.F.type_list_index mt_index (pv 1) (pa_cons pe_bl pa_nil)) (fun _ _ => rfl))))))), ?_⟩
    try dsimp only [cxOf]
    refine q_asgL (xs := [.bl (decide (0 = i)), .bl (decide (1 = i)), .bl (decide (2 = i)), .bl (decide (3 = i))]) (el_lst (ea_cons (ev_isE (ev_var rfl) ev_c (hw.kit 0 (by decide))) (ea_cons (ev_isE (ev_var rfl) ev_c (hw.kit 1 (by decide))) (ea_cons (ev_isE (ev_var rfl) ev_c (hw.kit 2 (by decide))) (ea_cons (ev_isE (ev_var rfl) ev_c (hw.kit 3 (by decide))) ea_nil)))) (Nat.le_of_ble_eq_true rfl)) fun kp H1 nkp e1 hkp => ?_
    refine q_asgL (xs := (marks i).map V.bl) (el_is (el_cat (ev_var rfl) hkp (el_lst (ea_cons (ev_isE (ev_var rfl) ev_c (hw.kit 4 (by decide))) (ea_cons (ev_isE (ev_var rfl) ev_c (hw.kit 5 (by decide))) ea_nil)) (Nat.le_of_ble_eq_true rfl)) (Nat.le_of_ble_eq_true rfl)) rfl) fun lp H2 nlp e2 hlp => ?_
    have hc : (marks i).count true = 1 := by
      match i, hi with
      | 0, _ => rfl
      | 1, _ => rfl
      | 2, _ => rfl
      | 3, _ => rfl
      | 4, _ => rfl
      | 5, _ => rfl
    refine q_when (b := false) (et_is (et_or (et_test (ev_op (ev_cntB (K := K) (ev_var rfl) ev_c hlp) ev_c (rv_ne rfl))) fun _ => et_not (et_B (ev_isEV (ev_var rfl) hw.ve))) ?_) (fun h => by cases h) fun _ H3 e3 => ?_
    · rw [hc, decide_eq_true (show V.int ((1 : Nat) : Int) = V.int 1 from rfl)]
      rfl
    refine s_ret (v := .str (wordAt i)) (ev_ixNL (i := (i : Int)) (xs := [.str "quay", .str "row", .str "outcome", .str "tree", .str "rank", .str "note"]) (el_lst (ea_cons ev_c (ea_cons ev_c (ea_cons ev_c (ea_cons ev_c (ea_cons ev_c (ea_cons ev_c ea_nil)))))) (Nat.le_of_ble_eq_true rfl)) (fun H4 e4 => ev_idxB (K := K) hi (ev_var rfl) ev_c (e4 _ _ (e3 _ _ hlp))) (atI_nat ?_)) fun H4 e4 => kQ H4 (((e1.trans e2).trans e3).trans e4)
    match i, hi with
    | 0, _ => rfl
    | 1, _ => rfl
    | 2, _ => rfl
    | 3, _ => rfl
    | 4, _ => rfl
    | 5, _ => rfl

abbrev s_l_tried : Stmt := top 23
abbrev N_l_tried : List Str := ["trees", "given", "e"]
theorem sc_l_tried : FnScope N_l_tried ["trees", "given"] (defScope s_l_tried) := ⟨rfl, rfl, rfl, by decide +kernel, rfl, by decide +kernel, by decide +kernel⟩
theorem bw_l_tried : BindsWell "_law_tried" s_l_tried ["trees", "given"] := fun _ _ _ _ _ _ us hl => match us, hl with | [_, _], _ => rfl

def sp_l_tried (K : Kf) : Sp := fun vs H Q _ => ∃ (a : Addr) (b : Bool) (ns : List Int), vs = [.bl b, .ref a] ∧ SqL K H a (ns.map V.int) ∧ ns.length ≤ 1000 ∧ (b = true → (¬ GoodT ns → RetV (.str "tree") H Q) ∧ (GoodT ns → RetV (.str "done") H Q)) ∧ (b = false → (¬ GoodR 39 ns → RetV (.str "row") H Q) ∧ (GoodR 39 ns → RetV (.str "done") H Q))
theorem tried_tree {K : Kf} {σ : L2.St} {H : Hp} {E : XK} {tw ta : TE} {ns : List Int} {w : Str} (hw : Ev tw σ H (.bl true)) (h : EvL ta σ H (ns.map V.int)) (hl : ns.length ≤ 1000) (h1 : ¬ GoodT ns → w = "tree") (h2 : GoodT ns → w = "done") : Ev (tCall (sp_l_tried K) [] E (tCons tw (tCons ta tNil))) σ H (.str w) := fun H1 e Q q =>
  hw H1 e _ fun H2 e2 => h H2 (e.trans e2) _ fun p H3 np e3 hp => ⟨p, true, ns, rfl, sq_of hp, hl, fun _ => ⟨fun hb H4 e4 => by rw [← h1 hb]; exact q H4 ((e2.trans e3).trans e4), fun hb H4 e4 => by rw [← h2 hb]; exact q H4 ((e2.trans e3).trans e4)⟩, fun z => by cases z⟩
theorem tried_row {K : Kf} {σ : L2.St} {H : Hp} {E : XK} {tw ta : TE} {ns : List Int} {w : Str} (hw : Ev tw σ H (.bl false)) (h : EvL ta σ H (ns.map V.int)) (hl : ns.length ≤ 1000) (h1 : ¬ GoodR 39 ns → w = "row") (h2 : GoodR 39 ns → w = "done") : Ev (tCall (sp_l_tried K) [] E (tCons tw (tCons ta tNil))) σ H (.str w) := fun H1 e Q q =>
  hw H1 e _ fun H2 e2 => h H2 (e.trans e2) _ fun p H3 np e3 hp => ⟨p, false, ns, rfl, sq_of hp, hl, (fun z => by cases z), fun _ => ⟨fun hb H4 e4 => by rw [← h1 hb]; exact q H4 ((e2.trans e3).trans e4), fun hb H4 e4 => by rw [← h2 hb]; exact q H4 ((e2.trans e3).trans e4)⟩⟩
theorem ok_l_tried (D : Def K mg "_law_tried" s_l_tried) (T : Txt mg) (gMoorError : mg "MoorError" = some (.ref (He.ga K "MoorError"))) (words : Words K) (O_row_of : Own P w K mg base (L2.CX P w) 2 "row_of" ["parents"] (sp_row_of K)) (O_tree_of : Own P w K mg base (L2.CX P w) 4 "tree_of" ["wishes"] (sp_tree_of K)) (O_l_word_of : OwnP P w K mg base 1 "_law_word_of" ["e"] (sp_l_word_of K)) : Own P w K mg base CX0 5 "_law_tried" ["trees", "given"] (sp_l_tried K) := by
  refine D.calm sc_l_tried bw_l_tried (fun vs H Q E h => ?_) (fun f cdv A outer s H vs Q E hr h => ?_)
  · obtain ⟨a, b, ns, rfl, _⟩ := h
    rfl
  · obtain ⟨a, b, ns, rfl, hS, hl, k1, k2⟩ := h
    have hr_row_of : Room 2 _ := hr.mono (by decide)
    have hr_tree_of : Room 4 _ := hr.mono (by decide)
    have hr_l_word_of : Room 1 _ := hr.mono (by decide)
    refine ⟨_, (pss_cons (ps_try_as (i := 2) rfl rfl sc_l_tried.nd rfl rfl ⟨rfl, by decide, Or.inl gMoorError⟩ takes0 (fun W pn xe tk xp => (pss_one (ps_if (pt_val (pv 0))
          (pss_one (ps_expr (pe_ownS O_row_of hr_row_of (fun σ => passAt tk σ) (pa_cons (pv 1) pa_nil))))
          (pss_one (ps_expr (pe_ownS O_tree_of hr_tree_of (fun σ => passAt tk σ) (pa_cons (pv 1) pa_nil))))))) (fun a oe cls d pn hz hf => (pss_one (ps_ret (pe_word O_l_word_of hr_l_word_of hz hf (pv 2))))))
        (pss_one (ps_ret pe_str))), ?_⟩
    try dsimp only [cxOf]
    have kb : ∀ (D : Ends) (_ : D.rt = Q) (Wout : WX) (H1 : Hp), Ex H H1 → ∀ i, i < 6 → RetV (.str (wordAt i)) H Q → ∀ H', Ex H1 H' → wAs K (.ref (He.ga K "MoorError")) 2 (fun a cls d => tRet (tWord K a cls d (tVar 2))) Wout D (.ref (He.ga K (classAt i))) none ([some (.bl b), some (.ref a), none] : L2.St) H' := fun D hD Wout H1 e1 i hi k H' e2 =>
      word_wish (words.w i hi) hi (by show 2 < 3; decide) fun H3 e3 => by
        rw [hD]
        exact k H3 ((e1.trans e2).trans e3)
    refine s_if (et_B (ev_var rfl)) (fun hb H1 e1 => ?_) (fun hb H1 e1 => ?_)
    · obtain ⟨g1, g2⟩ := k1 hb
      exact s_dropS (by walk_at "ea") fun H2 e2 => ⟨a, ns, rfl, ex_l (e1.trans e2) hS, hl, fun hn H' e' => kb _ rfl _ H2 (e1.trans e2) 3 (by decide) (g1 hn) H' e', fun ts e hR p H' np e' hp => g2 ⟨ts, e, hR⟩ H' ((e1.trans e2).trans e')⟩
    · obtain ⟨g1, g2⟩ := k2 hb
      exact s_dropS (by walk_at "ea") fun H2 e2 => ⟨a, ns, rfl, ex_l (e1.trans e2) hS, hl, fun hn H' e' => kb _ rfl _ H2 (e1.trans e2) 1 (by decide) (g1 hn) H' e', fun ws e hR h39 p H' np e' hp => g2 ⟨ws, e, hR, by omega⟩ H' ((e1.trans e2).trans e')⟩

abbrev s_l_bad_row : Stmt := top 25
abbrev N_l_bad_row : List Str := ["script", "way", "boats", "wishes", "k"]
theorem sc_l_bad_row : FnScope N_l_bad_row ["script", "way"] (defScope s_l_bad_row) := ⟨rfl, rfl, rfl, by decide +kernel, rfl, by decide +kernel, by decide +kernel⟩
theorem bw_l_bad_row : BindsWell "_law_bad_row" s_l_bad_row ["script", "way"] := fun _ _ _ _ _ _ us hl => match us, hl with | [_, _], _ => rfl

def RowDone (way : Int) (n : Nat) : Prop := way = 5 ∨ (way = 4 ∧ n = 1)
def sp_l_bad_row (K : Kf) : Sp := fun vs H Q _ => ∃ (a : Addr) (ns : List Int) (way : Int), vs = [.ref a, .int way] ∧ SqL K H a (ns.map V.int) ∧ (0 ≤ way ∧ way < 6) ∧ ∀ zs : List Int, zs.length ≤ 43 → (RowDone way zs.length → GoodR 39 zs) → (¬ RowDone way zs.length → ¬ GoodR 39 zs) → RetL (zs.map V.int) H Q
theorem sv_bad_row {K : Kf} {σ : L2.St} {H : Hp} {E : XK} {ta : TA} {a : Addr} {ns : List Int} {way : Int} (h : EvA ta σ H [.ref a, .int way]) (hS : SqL K H a (ns.map V.int)) (hw : 0 ≤ way ∧ way < 6) : EvLP (tCall (sp_l_bad_row K) [] E ta) σ H (fun xs => ∃ zs : List Int, xs = zs.map V.int ∧ zs.length ≤ 43 ∧ (RowDone way zs.length → GoodR 39 zs) ∧ (¬ RowDone way zs.length → ¬ GoodR 39 zs)) :=
  lp_call h fun H1 e Q q E => ⟨a, ns, way, rfl, ex_l e hS, hw, fun zs h1 h2 h3 => q _ ⟨zs, rfl, h1, h2, h3⟩⟩
theorem ok_l_bad_row (D : Def K mg "_law_bad_row" s_l_bad_row) (T : Txt mg) (O_l_cell_at : Own P w K mg base CX0 1 "_law_cell_at" ["script", "k"] (sp_l_cell_at K)) : Own P w K mg base CX0 2 "_law_bad_row" ["script", "way"] (sp_l_bad_row K) := by
  refine D.calm sc_l_bad_row bw_l_bad_row (fun vs H Q E h => ?_) (fun f cdv A outer s H vs Q E hr h => ?_)
  · obtain ⟨a, ns, way, rfl, _⟩ := h
    rfl
  · obtain ⟨a, ns, way, rfl, hS, hw6, kQ⟩ := h
    have hr_l_cell_at : Room 1 _ := hr.mono (by decide)
    refine ⟨_, (pss_cons (ps_set (i := 2) sc_l_bad_row.nd rfl (Or.inr rfl) (pe_op op_add pe_int (pe_op op_mod (pe_own O_l_cell_at hr_l_cell_at pass0 (pa_cons (pv 0) (pa_cons pe_int pa_nil))) pe_int)))
        (pss_cons (ps_if (pt_cmpR op_eq (pv 1) pe_int (nomark _))
        (pss_one (ps_set (i := 2) sc_l_bad_row.nd rfl (Or.inr rfl) pe_int))
        pss_nil)
        (pss_cons (ps_if (pt_cmpR op_eq (pv 1) pe_int (nomark _))
        (pss_one (ps_set (i := 2) sc_l_bad_row.nd rfl (Or.inr rfl) pe_int))
        pss_nil)
        (pss_cons (ps_setLc (i := 3) (own := [("k", 4)]) (g := gName 4) rfl sc_l_bad_row.nd rfl rfl (sw_true rfl rfl rfl (by decide +kernel)) (pi_range1 (by rfl) T.range (pa_cons (pv 2) pa_nil)) (blkOk_by (N := N_l_bad_row) (sc := defScope s_l_bad_row) (by decide +kernel)) (fun _ _ _ _ _ => pg_name (i := 4) sc_l_bad_row.nd rfl (.inl rfl)) (fun _ _ _ _ _ => pts_nil) (fun _ _ _ _ _ => (pe_op op_mod (pe_own O_l_cell_at hr_l_cell_at pass0 (pa_cons (pv 0) (pa_cons (pe_op op_add pe_int (pv 4)) pa_nil))) (pe_op op_add pe_int (pv 4)))))
        (pss_cons (ps_if (PW.pt (pw_or (pt_cmpR op_eq (pv 1) pe_int (nomark _)) (pw_or1 (pt_cmpR op_eq (pv 1) pe_int (nomark _)))))
        (pss_one (ps_asg (pe_ix ix_list (pe_lst (pa_cons (pe_un un_neg pe_int) (pa_cons (pv 2) pa_nil))) (pe_op op_sub (pv 1) pe_int) (fun _ _ => rfl)) (pg_sub (pv 3) (pe_op op_mod (pe_own O_l_cell_at hr_l_cell_at pass0 (pa_cons (pv 0) (pa_cons pe_int pa_nil))) (pv 2)) set_list)))
        pss_nil)
        (pss_cons (ps_if (pt_cmpR op_eq (pv 1) pe_int (nomark _))
        (pss_one (ps_setLc (i := 3) (own := [("k", 4)]) (g := gName 4) rfl sc_l_bad_row.nd rfl rfl (sw_true rfl rfl rfl (by decide +kernel)) (pi_range1 (by rfl) T.range (pa_cons (pv 2) pa_nil)) (blkOk_by (N := N_l_bad_row) (sc := defScope s_l_bad_row) (by decide +kernel)) (fun _ _ _ _ _ => pg_name (i := 4) sc_l_bad_row.nd rfl (.inl rfl)) (fun _ _ _ _ _ => pts_nil) (fun _ _ _ _ _ => (pe_op op_sub (pv 2) pe_int))))
        pss_nil)
        (pss_one (ps_ret (pv 3))))))))), ?_⟩
    try dsimp only [cxOf]
    obtain ⟨n0, en0, h1, h8⟩ : ∃ n : Nat, 1 + cellAt ns 0 % 39 = (n : Int) ∧ 1 ≤ n ∧ n ≤ 39 := ⟨(1 + cellAt ns 0 % 39).toNat, by omega, by omega, by omega⟩
    refine q_asg (v := .int (n0 : Int)) (ev_is (by walk_at "ev") (congrArg V.int en0)) fun H1 e1 => ?_
    refine q_ifP (fun v => ∃ n : Nat, v = .int (n : Int) ∧ (way = 0 → n = 0) ∧ (way ≠ 0 → 1 ≤ n ∧ n ≤ 39)) (et_test (ev_op (ev_var rfl) ev_c (rv_eq rfl))) (fun hb => ⟨_, ev_c, 0, rfl, fun _ => rfl, fun h => absurd (V.int.inj (of_decide_eq_true hb)) h⟩) (fun hb => ⟨_, rfl, n0, rfl, fun h => absurd (congrArg V.int h) (of_decide_eq_false hb), fun _ => ⟨h1, h8⟩⟩) ?_
    rintro v H4 ⟨n1, rfl, a1, a2⟩ e4
    refine q_ifP (fun v => ∃ n : Nat, v = .int (n : Int) ∧ (way = 0 → n = 0) ∧ (way = 1 → n = 40) ∧ (1 < way → 1 ≤ n ∧ n ≤ 39)) (et_test (ev_op (ev_var rfl) ev_c (rv_eq rfl))) (fun hb => ?_) (fun hb => ?_) ?_
    · have hb2 := V.int.inj (of_decide_eq_true hb)
      exact ⟨_, ev_c, 40, rfl, fun h => by omega, fun _ => rfl, fun h => by omega⟩
    · have hb2 : way ≠ 1 := fun h => of_decide_eq_false hb (congrArg V.int h)
      exact ⟨_, rfl, n1, rfl, a1, fun h => absurd h hb2, fun h => a2 (by omega)⟩
    rintro v H5 ⟨n, rfl, b0, b1, b2⟩ e5
    have hS5 := ex_l ((e1.trans e4).trans e5) hS
    have hn41 : n ≤ 40 := by
      by_cases c0 : way = 0
      · have := b0 c0
        omega
      · by_cases c1 : way = 1
        · have := b1 c1
          omega
        · have := (b2 (by omega)).2
          omega
    have hnn : ∀ k : Nat, cellAt ns (9 + (k : Int)) % (1 + (k : Int)) = (((cellAt ns (9 + (k : Int)) % (1 + (k : Int))).toNat : Nat) : Int) := fun k => by
      have := Int.emod_nonneg (cellAt ns (9 + (k : Int))) (show 1 + (k : Int) ≠ 0 by omega)
      omega
    have hle : ∀ k : Nat, (cellAt ns (9 + (k : Int)) % (1 + (k : Int))).toNat ≤ k := fun k => by
      have := Int.emod_lt_of_pos (cellAt ns (9 + (k : Int))) (show (0 : Int) < 1 + (k : Int) by omega)
      omega
    have hstep : 1 ≤ n → WRow ((List.range n).map fun (k : Nat) => (cellAt ns (9 + (k : Int)) % (1 + (k : Int))).toNat) := fun h => steps_whole _ h (by omega) fun k _ => hle k
    have hzl : ((List.range n).map fun (k : Nat) => (cellAt ns (9 + (k : Int)) % (1 + (k : Int))).toNat).length = n := by rw [List.length_map, List.length_range]
    refine q_asgL (xs := (((List.range n).map fun (k : Nat) => (cellAt ns (9 + (k : Int)) % (1 + (k : Int))).toNat).map Int.ofNat).map V.int) (el_is (el_lcR1 (n := (n : Int)) (fun _ => true) (fun k => .int (cellAt ns (9 + (k : Int)) % (1 + (k : Int)))) (by walk_at "ea") (by omega) (fun _ => rfl) (fun _ _ _ _ => et_yes) (fun k H6 e6 hk _ => ev_op (sv_cell (by walk_at "ea") (ex_l e6 hS5) (by omega)) (ev_op ev_c (ev_var rfl) rv_I0) (rv_I (by show (0 : Int) < _; omega)))) ?_) fun wp H6 nwp e6 hwp => ?_
    · rw [given_all (fun _ => rfl), Int.toNat_natCast, List.map_map, List.map_map]
      exact List.map_congr_left fun k _ => congrArg V.int (hnn k)
    generalize ((List.range n).map fun (k : Nat) => (cellAt ns (9 + (k : Int)) % (1 + (k : Int))).toNat) = us at hwp hstep hzl
    have eH5 : Ex H H5 := (e1.trans e4).trans e5
    have eH6 : Ex H H6 := eH5.trans e6
    have nwp0 : H wp = none := fresh_back eH5 nwp
    refine q_whenN (fun σ' H' => ∃ zs : List Int, σ' = [some (.ref a), some (.int way), some (.int (n : Int)), some (.ref wp), none] ∧ Ex H H' ∧ H' wp = some (.lst (zs.map V.int)) ∧ zs.length = n ∧ (way ≠ 2 ∧ way ≠ 3 → zs = us.map Int.ofNat) ∧ (way = 2 ∨ way = 3 → ¬ GoodR 39 zs)) (b := decide (way = 2) || decide (way = 3)) (et_or (et_is (et_test (ev_op (ev_var rfl) ev_c (rv_eq rfl))) (decide_eq_decide.mpr ⟨fun h => V.int.inj h, fun h => by rw [h]⟩)) fun _ => et_is (et_test (ev_op (ev_var rfl) ev_c (rv_eq rfl))) (decide_eq_decide.mpr ⟨fun h => V.int.inj h, fun h => by rw [h]⟩)) ?_ (fun hb H7 e7 hk => ?_) (fun hb H7 e7 => ?_)
    · rintro σ' H7 ⟨zs, rfl, e7, hzs, hz, g1, g2⟩
      have fin : ∀ (D : Ends) (_ : D.rt = Q) (zs : List Int) (vp : Addr) (H' : Hp), Ex H H' → H vp = none → H' vp = some (.lst (zs.map V.int)) → zs.length = n → (RowDone way n → GoodR 39 zs) → (¬ RowDone way n → ¬ GoodR 39 zs) → tRet (tVar 3) D ([some (.ref a), some (.int way), some (.int (n : Int)), some (.ref vp), none] : L2.St) H' := fun D hD zs vp H' eH nv hz hl k1 k2 => s_ret (ev_var rfl) fun H9 e9 => by
        rw [hD]
        exact kQ zs (by omega) (by rw [hl]; exact k1) (by rw [hl]; exact k2) vp H9 nv (eH.trans e9) (e9 _ _ hz)
      refine q_when (b := decide (way = 4)) (et_is (et_test (ev_op (ev_var rfl) ev_c (rv_eq rfl))) (decide_eq_decide.mpr ⟨fun h => V.int.inj h, fun h => by rw [h]⟩)) (fun hb H8 e8 => ?_) (fun hb H8 e8 => ?_)
      · have hw4 := of_decide_eq_true hb
        have hn := b2 (by omega)
        refine s_asgL (xs := ((List.replicate n (n - 1)).map Int.ofNat).map V.int) (el_is (el_lcR1 (n := (n : Int)) (fun _ => true) (fun _ => .int ((n - 1 : Nat) : Int)) (by walk_at "ea") (by omega) (fun _ => rfl) (fun _ _ _ _ => et_yes) (fun _ _ _ _ _ => ev_is (ev_op (ev_var rfl) ev_c rv_I0) (congrArg V.int (by omega)))) ?_) fun vp H9 nvp e9 hvp => ?_
        · rw [given_all (fun _ => rfl), Int.toNat_natCast, List.map_replicate, List.map_replicate]
          refine List.ext_getElem? fun i => ?_
          rw [List.getElem?_map, List.getElem?_replicate]
          by_cases h : i < n
          · rw [List.getElem?_range h, if_pos h]
            rfl
          · rw [List.getElem?_eq_none (by rw [List.length_range]; omega), if_neg h]
            rfl
        refine fin _ rfl _ vp H9 ((e7.trans e8).trans e9) (fresh_back (e7.trans e8) nvp) hvp (by rw [List.length_map, List.length_replicate]) (fun h => ?_) (fun h => ?_)
        · rcases h with h | ⟨_, h⟩
          · omega
          · rw [h]
            exact last_good (by decide)
        · refine no_last ?_
          by_cases c : n = 1
          · exact absurd (.inr ⟨hw4, c⟩) h
          · omega
      · have hw4 := of_decide_eq_false hb
        refine fin _ rfl zs wp H8 (e7.trans e8) nwp0 (e8 _ _ hzs) hz (fun h => ?_) (fun h => ?_)
        · have hw5 : way = 5 := by rcases h with h | h <;> omega
          have hn := b2 (by omega)
          rw [g1 ⟨by omega, by omega⟩]
          exact ⟨us, rfl, hstep hn.1, by omega⟩
        · have h5 : way ≠ 5 := fun z => h (.inl z)
          by_cases c : way = 2 ∨ way = 3
          · exact g2 c
          · refine no_rlen ?_
            rw [hz]
            by_cases c0 : way = 0
            · have := b0 c0
              omega
            · have := b1 (by omega)
              omega
    · have hb2 : way = 2 ∨ way = 3 := by
        rw [Bool.or_eq_true, decide_eq_true_eq, decide_eq_true_eq] at hb
        exact hb
      obtain ⟨bad, hat, hbad⟩ : ∃ bad : Int, atI [V.int (-1), V.int (n : Int)] (way - 2) = some (.int bad) ∧ (bad < 0 ∨ (n : Int) ≤ bad) := by
        rcases hb2 with h | h
        · rw [h]
          exact ⟨_, rfl, .inl (by omega)⟩
        · rw [h]
          exact ⟨_, rfl, .inr (by omega)⟩
      have hS7 := ex_l (eH6.trans e7) hS
      have hn1 := (b2 (by omega)).1
      have hzl2 : (us.map Int.ofNat).length = n := by rw [List.length_map]; exact hzl
      obtain ⟨j, hj, hjl⟩ := mod_nat (cellAt ns 2) (m := (n : Int)) (n := n) (by omega) (by omega)
      refine s_setL (j := j) (e7 _ _ hwp) (v := .int bad) (ev_ixNL (i := way - 2) (el_lst (ea_cons (ev_un ev_c ru_neg) (ea_cons (ev_var rfl) ea_nil)) (Nat.le_of_ble_eq_true rfl)) (fun H8 e8 => ev_op (ev_var rfl) ev_c rv_I0) hat) (ev_var rfl) (ev_is (ev_op (sv_cell (by walk_at "ea") hS7 (by omega)) (ev_var rfl) (rv_I (by show (0 : Int) < _; omega))) (congrArg V.int hj)) (by rw [List.length_map, hzl2]; exact hjl) fun H9 e9 => ?_
      refine hk _ _ ⟨(us.map Int.ofNat).set j bad, rfl, ((eH6.trans e7).trans e9).mut nwp0, ?_, by rw [List.length_set]; exact hzl2, fun h => by omega, fun _ => no_wish (set_mem (by omega)) (by rw [List.length_set, hzl2]; exact hbad)⟩
      rw [upd_same, List.map_set]
    · rw [Bool.or_eq_false_iff, decide_eq_false_iff_not, decide_eq_false_iff_not] at hb
      exact ⟨us.map Int.ofNat, rfl, eH6.trans e7, e7 _ _ hwp, by rw [List.length_map]; exact hzl, fun _ => rfl, fun h => by omega⟩

abbrev s_law : Stmt := top 26
abbrev N_law : List Str := ["script", "far", "way", "parents", "due", "wishes"]
theorem sc_law : FnScope N_law ["script"] (defScope s_law) := ⟨rfl, rfl, rfl, by decide +kernel, rfl, by decide +kernel, by decide +kernel⟩
theorem bw_law : BindsWell "law" s_law ["script"] := fun _ _ _ _ _ _ us hl => match us, hl with | [_], _ => rfl

theorem str_if {c : Prop} {a b : Str} [Decidable c] {σ : L2.St} {H : Hp} {te : TE} (h1 : c → Ev te σ H (.str a)) (h2 : ¬ c → Ev te σ H (.str b)) : Ev te σ H (.str (if c then a else b)) := by
  by_cases h : c
  · rw [if_pos h]
    exact h1 h
  · rw [if_neg h]
    exact h2 h
instance (way : Int) (n : Nat) : Decidable (TreeDone way n) := by unfold TreeDone; infer_instance
instance (way : Int) (n : Nat) : Decidable (RowDone way n) := by unfold RowDone; infer_instance
theorem int_eq {a b : Int} : decide (V.int a = V.int b) = decide (a = b) := decide_eq_decide.mpr ⟨fun h => V.int.inj h, fun h => by rw [h]⟩
theorem done_bool {way n c : Int} {m : Nat} (hn : n = (m : Int)) {b : Int} : (decide (V.int way = V.int c) || (decide (V.int way = V.int b) && decide (V.int n = V.int 1))) = decide (way = c ∨ (way = b ∧ m = 1)) := by
  rw [int_eq, int_eq, int_eq, Bool.eq_iff_iff, Bool.or_eq_true, Bool.and_eq_true, decide_eq_true_eq, decide_eq_true_eq, decide_eq_true_eq, decide_eq_true_eq]
  omega
theorem ok_law {f : Addr} {fd : FuncData} (F : FunD K "law" "law" (defArgs s_law) (defBody s_law) (defScope s_law) [] [] f fd) (T : Txt mg) (O_l_cell_at : Own P w K mg base CX0 1 "_law_cell_at" ["script", "k"] (sp_l_cell_at K)) (O_l_bad_tree : Own P w K mg base CX0 4 "_law_bad_tree" ["script", "way", "far"] (sp_l_bad_tree K)) (O_l_tried : Own P w K mg base CX0 5 "_law_tried" ["trees", "given"] (sp_l_tried K)) (O_l_bad_row : Own P w K mg base CX0 2 "_law_bad_row" ["script", "way"] (sp_l_bad_row K)) : FnOk P w K mg base CX0 6 f fd ["script"] (spLaw K) := by
  refine F.ok sc_law (fun vs H Q E h => ?_) (fun cdv A outer s H vs Q E hr h => ?_)
  · obtain ⟨a, ns, rfl, _⟩ := h
    rfl
  · obtain ⟨a, ns, rfl, hS, hlen, kQ⟩ := h
    have hr_l_cell_at : Room 1 _ := hr.mono (by decide)
    have hr_l_bad_tree : Room 4 _ := hr.mono (by decide)
    have hr_l_tried : Room 5 _ := hr.mono (by decide)
    have hr_l_bad_row : Room 2 _ := hr.mono (by decide)
    refine ⟨_, PSs.nox (pss_cons (ps_set (i := 1) sc_law.nd rfl (Or.inl rfl) (pe_op op_mod (pe_own O_l_cell_at hr_l_cell_at pass0 (pa_cons (pv 0) (pa_cons pe_int pa_nil))) (pe_op op_pow pe_int pe_int)))
        (pss_cons (ps_set (i := 2) sc_law.nd rfl (Or.inl rfl) (pe_op op_mod (pe_own O_l_cell_at hr_l_cell_at pass0 (pa_cons (pv 0) (pa_cons pe_int pa_nil))) pe_int))
        (pss_cons (ps_set (i := 3) sc_law.nd rfl (Or.inl rfl) (pe_own O_l_bad_tree hr_l_bad_tree pass0 (pa_cons (pv 0) (pa_cons (pv 2) (pa_cons (pv 1) pa_nil)))))
        (pss_cons (ps_set (i := 4) sc_law.nd rfl (Or.inl rfl) pe_str)
        (pss_cons (ps_if (PW.pt (pw_or (pt_cmpR op_eq (pv 2) pe_int (nomark _)) (pw_or1 (PW.pt (pw_and (pt_cmpR op_eq (pv 2) pe_int (nomark _)) (pw_and1 (pt_cmpR op_eq (pe_callB cr_len (by rfl) T.len PySem.boot_len (pa_cons (pv 3) pa_nil)) pe_int (nomark _))))))))
        (pss_one (ps_set (i := 4) sc_law.nd rfl (Or.inl rfl) pe_str))
        pss_nil)
        (pss_cons (ps_if (pt_cmpR op_ne (pe_own O_l_tried hr_l_tried pass0 (pa_cons pe_bl (pa_cons (pe_callTy cr_list (by rfl) T.list (by decide +kernel) (pa_cons (pv 3) pa_nil)) pa_nil))) (pv 4) (nomark _))
        (pss_one (ps_ret pe_bl))
        pss_nil)
        (pss_cons (ps_set (i := 2) sc_law.nd rfl (Or.inl rfl) (pe_op op_mod (pe_own O_l_cell_at hr_l_cell_at pass0 (pa_cons (pv 0) (pa_cons pe_int pa_nil))) pe_int))
        (pss_cons (ps_set (i := 5) sc_law.nd rfl (Or.inl rfl) (pe_own O_l_bad_row hr_l_bad_row pass0 (pa_cons (pv 0) (pa_cons (pv 2) pa_nil))))
        (pss_cons (ps_set (i := 4) sc_law.nd rfl (Or.inl rfl) pe_str)
        (pss_cons (ps_if (PW.pt (pw_or (pt_cmpR op_eq (pv 2) pe_int (nomark _)) (pw_or1 (PW.pt (pw_and (pt_cmpR op_eq (pv 2) pe_int (nomark _)) (pw_and1 (pt_cmpR op_eq (pe_callB cr_len (by rfl) T.len PySem.boot_len (pa_cons (pv 5) pa_nil)) pe_int (nomark _))))))))
        (pss_one (ps_set (i := 4) sc_law.nd rfl (Or.inl rfl) pe_str))
        pss_nil)
        (pss_one (ps_ret (pe_cmpR op_eq (pe_own O_l_tried hr_l_tried pass0 (pa_cons pe_bl (pa_cons (pe_callTy cr_list (by rfl) T.list (by decide +kernel) (pa_cons (pv 5) pa_nil)) pa_nil))) (pv 4) (nomark _)))))))))))))), ?_⟩
    try dsimp only [cxOf]
    refine q_asg (ev_op (sv_cell (by walk_at "ea") hS (by omega)) (ev_op ev_c ev_c (rv_I (C := CPow) ⟨by decide, by decide, by decide⟩)) (rv_I (by show (0 : Int) < 10 ^ (30 : Int).toNat; decide))) fun H1 e1 => ?_
    have hfar : 0 ≤ cellAt ns 3 % 10 ^ (30 : Int).toNat := Int.emod_nonneg _ (by decide)
    generalize cellAt ns 3 % 10 ^ (30 : Int).toNat = far at hfar
    have hS1 := ex_l e1 hS
    refine q_asg (by walk_at "ev") fun H2 e2 => ?_
    have hS2 := ex_l e2 hS1
    have hw9 : 0 ≤ cellAt ns 1 % 9 ∧ cellAt ns 1 % 9 < 9 := by omega
    generalize cellAt ns 1 % 9 = way at hw9
    refine q_asgLP (sv_bad_tree (by walk_at "ea") hS2 hw9 hfar) fun tp xs H3 ntp e3 htp hP => ?_
    obtain ⟨zs, rfl, hzl, g1, g2⟩ := hP
    refine q_asg ev_c fun H4 e4 => ?_
    have ht4 := e4 _ _ htp
    refine q_whenN (fun σ' H' => σ' = [some (.ref a), some (.int far), some (.int way), some (.ref tp), some (.str (if TreeDone way zs.length then "done" else "tree")), none] ∧ Ex H4 H') (b := decide (TreeDone way zs.length)) (et_is (et_or (et_test (ev_op (ev_var rfl) ev_c (rv_eq rfl))) fun _ => et_and (et_test (ev_op (ev_var rfl) ev_c (rv_eq rfl))) fun _ => et_test (ev_op (ev_is (ev_len (K := K) (ev_var rfl) (sq_of ht4)) (by rw [List.length_map])) ev_c (rv_eq rfl))) (done_bool rfl)) ?_ (fun hb H5 e5 hk => ?_) (fun hb H5 e5 => ?_)
    · rintro σ' H5 ⟨rfl, e5⟩
      have ht5 := e5 _ _ ht4
      refine q_when (b := false) (et_is (et_test (ev_op (tried_tree (K := K) (ns := zs) (w := if TreeDone way zs.length then "done" else "tree") ev_c (el_list (ev_var rfl) (sq_of ht5)) (by omega) (fun hb => if_neg fun h => hb (g1 h)) (fun hb => if_pos (Classical.byContradiction fun h => g2 h hb))) (ev_var rfl) (rv_ne rfl))) (by rw [decide_eq_true rfl]; rfl)) (fun h => by cases h) fun _ H6 e6 => ?_
      have hS6 := ex_l (((e3.trans e4).trans e5).trans e6) hS2
      refine q_asg (by walk_at "ev") fun H7 e7 => ?_
      have hS7 := ex_l e7 hS6
      have hw6 : 0 ≤ cellAt ns 4 % 6 ∧ cellAt ns 4 % 6 < 6 := by omega
      generalize cellAt ns 4 % 6 = wayr at hw6
      refine q_asgLP (sv_bad_row (by walk_at "ea") hS7 hw6) fun wp xs H8 nwp e8 hwp hP => ?_
      obtain ⟨ys, rfl, hyl, k1, k2⟩ := hP
      refine q_asg ev_c fun H9 e9 => ?_
      have hw9 := e9 _ _ hwp
      refine q_whenN (fun σ' H' => σ' = [some (.ref a), some (.int far), some (.int wayr), some (.ref tp), some (.str (if RowDone wayr ys.length then "done" else "row")), some (.ref wp)] ∧ Ex H9 H') (b := decide (RowDone wayr ys.length)) (et_is (et_or (et_test (ev_op (ev_var rfl) ev_c (rv_eq rfl))) fun _ => et_and (et_test (ev_op (ev_var rfl) ev_c (rv_eq rfl))) fun _ => et_test (ev_op (ev_is (ev_len (K := K) (ev_var rfl) (sq_of hw9)) (by rw [List.length_map])) ev_c (rv_eq rfl))) (done_bool rfl)) ?_ (fun hb H10 e10 hk => ?_) (fun hb H10 e10 => ?_)
      · rintro σ' H10 ⟨rfl, e10⟩
        refine s_ret (v := .bl true) (ev_is (ev_op (tried_row (K := K) (ns := ys) (w := if RowDone wayr ys.length then "done" else "row") ev_c (el_list (ev_var rfl) (sq_of (e10 _ _ hw9))) (by omega) (fun hb => if_neg fun h => hb (k1 h)) (fun hb => if_pos (Classical.byContradiction fun h => k2 h hb))) (ev_var rfl) (rv_eq rfl)) (by rw [decide_eq_true rfl])) fun H11 e11 => kQ H11
      · exact s_asg ev_c fun H11 e11 => hk _ _ ⟨by rw [if_pos (of_decide_eq_true hb)]; rfl, e10.trans e11⟩
      · exact ⟨by rw [if_neg (of_decide_eq_false hb)]; rfl, e10⟩
    · exact s_asg ev_c fun H6 e6 => hk _ _ ⟨by rw [if_pos (of_decide_eq_true hb)]; rfl, e5.trans e6⟩
    · exact ⟨by rw [if_neg (of_decide_eq_false hb)]; rfl, e5⟩

end
def d_l_cell_at : He.DefD := ⟨("_law_cell_at", none), "_law_cell_at", "_law_cell_at", defArgs s_l_cell_at, defBody s_l_cell_at, defScope s_l_cell_at, [], []⟩
def d_l_shuffled : He.DefD := ⟨("_law_shuffled", none), "_law_shuffled", "_law_shuffled", defArgs s_l_shuffled, defBody s_l_shuffled, defScope s_l_shuffled, [], []⟩
def d_l_chain : He.DefD := ⟨("_law_chain", none), "_law_chain", "_law_chain", defArgs s_l_chain, defBody s_l_chain, defScope s_l_chain, [], []⟩
def d_l_bad_tree : He.DefD := ⟨("_law_bad_tree", none), "_law_bad_tree", "_law_bad_tree", defArgs s_l_bad_tree, defBody s_l_bad_tree, defScope s_l_bad_tree, [], []⟩
def d_asked_tree : He.DefD := ⟨("asked_tree", none), "asked_tree", "asked_tree", defArgs s_asked_tree, defBody s_asked_tree, defScope s_asked_tree, [], []⟩
def d_row_of : He.DefD := ⟨("row_of", none), "row_of", "row_of", defArgs s_row_of, defBody s_row_of, defScope s_row_of, [], []⟩
def d_asked : He.DefD := ⟨("asked", none), "asked", "asked", defArgs s_asked, defBody s_asked, defScope s_asked, [], []⟩
def d_crowd : He.DefD := ⟨("crowd", none), "crowd", "crowd", defArgs s_crowd, defBody s_crowd, defScope s_crowd, [], []⟩
def d_asked_whole : He.DefD := ⟨("asked_whole", none), "asked_whole", "asked_whole", defArgs s_asked_whole, defBody s_asked_whole, defScope s_asked_whole, [], []⟩
def d_tree_of : He.DefD := ⟨("tree_of", none), "tree_of", "tree_of", defArgs s_tree_of, defBody s_tree_of, defScope s_tree_of, [], []⟩
def d_l_word_of : He.DefD := ⟨("_law_word_of", none), "_law_word_of", "_law_word_of", defArgs s_l_word_of, defBody s_l_word_of, defScope s_l_word_of, [], []⟩
def d_l_tried : He.DefD := ⟨("_law_tried", none), "_law_tried", "_law_tried", defArgs s_l_tried, defBody s_l_tried, defScope s_l_tried, [], []⟩
def d_l_bad_row : He.DefD := ⟨("_law_bad_row", none), "_law_bad_row", "_law_bad_row", defArgs s_l_bad_row, defBody s_l_bad_row, defScope s_l_bad_row, [], []⟩
def d_law : He.DefD := ⟨("law", none), "law", "law", defArgs s_law, defBody s_law, defScope s_law, [], []⟩
def fns : List He.DefD := [d_l_cell_at, d_l_shuffled, d_l_chain, d_l_bad_tree, d_asked_tree, d_row_of, d_asked, d_crowd, d_asked_whole, d_tree_of, d_l_word_of, d_l_tried, d_l_bad_row, d_law]
def fas : List He.Fa := [.free "ValueError", .free "bool", .free "int", .free "isinstance", .free "len", .free "list", .free "max", .free "min", .free "range", .free "reversed", .free "set", .free "sorted", .free "str", .free "sum", .free "tuple", .glo "_law_cell_at", .glo "_law_shuffled", .glo "_law_chain", .glo "_law_bad_tree", .glo "asked_tree", .glo "row_of", .glo "asked", .glo "crowd", .glo "asked_whole", .glo "tree_of", .glo "_law_word_of", .glo "_law_tried", .glo "_law_bad_row", .glo "law", .int "MOST" 39, .int "LONGEST" 40, .glo "NoTree", .glo "NoRow", .glo "NoQuay", .glo "NoOutcome", .glo "NoRank", .glo "NoNote", .glo "MoorError"]
def mores : Kf → Bool := wordsB
abbrev R : PySem.W.OpenRow := PySem.W.OpenLaw.row PySem.Challenge.rw_wishmoor_k16_refused_trees
abbrev hk : PySem.W.Hook := hookM 5 fas fns mores
def ob (s : PySem.W.SharedT) : AlM := obsM 5 fas fns mores (HandSHeadRun.getT s)
theorem ob_eq (s : PySem.W.SharedT) : ob s = hk.obs s.abs := obsM_eq (HandSHeadRun.getT_eq s)
def loose : List PySem.Str := ["asked", "crowd", "asked_whole", "tree_of", "asked_tree", "row_of", "_law_cell_at", "_law_shuffled", "_law_word_of", "_law_chain", "_law_tried", "_law_bad_tree", "_law_bad_row", "LONGEST", "MOST", "MoorError", "NoQuay", "NoRow", "NoOutcome", "NoTree", "NoRank", "NoNote"]
set_option maxHeartbeats 0 in
theorem run (w : World) : HandSHeadRun.RunEq R (PySem.W.view R.prog [26]) hk ob 4000 loose w := by
  intro os
  kernel_rfl
theorem facts {P : Program} {w : World} {K : Kf} {h : Heap} {mg : Mg} {f : Addr} (X : K.In h) (G : h.Ns mainGlobals mg) (hfa : mg ("law" : Str) = some (.ref f)) (c : SaysM fas fns mores K) :
    ∃ fd : FuncData, (∀ (s : Shared) (v : Value), BindsTo s fd ⟨[v], []⟩ [("script", v)]) ∧ ∀ base : Heap, K.In base → base.Ns mainGlobals mg → FnOk P w K mg base CX0 6 f fd ["script"] (spLaw K) := by
  have T : Txt mg := ⟨He.free_ok X G (c.1.fact 4), He.free_ok X G (c.1.fact 8), He.free_ok X G (c.1.fact 5), He.free_ok X G (c.1.fact 3), He.free_ok X G (c.1.fact 2), He.free_ok X G (c.1.fact 1), He.free_ok X G (c.1.fact 12), He.free_ok X G (c.1.fact 14), He.free_ok X G (c.1.fact 9), He.free_ok X G (c.1.fact 11), He.free_ok X G (c.1.fact 13), He.free_ok X G (c.1.fact 7), He.free_ok X G (c.1.fact 6), He.free_ok X G (c.1.fact 10), He.free_ok X G (c.1.fact 0)⟩
  obtain ⟨fd_l_cell_at, F_l_cell_at⟩ := c.1.def_ 0 (d := d_l_cell_at) rfl
  have D_l_cell_at : Def K mg "_law_cell_at" s_l_cell_at := ⟨_, fd_l_cell_at, F_l_cell_at, He.glo_ok X G (c.1.fact 15)⟩
  obtain ⟨fd_l_shuffled, F_l_shuffled⟩ := c.1.def_ 1 (d := d_l_shuffled) rfl
  have D_l_shuffled : Def K mg "_law_shuffled" s_l_shuffled := ⟨_, fd_l_shuffled, F_l_shuffled, He.glo_ok X G (c.1.fact 16)⟩
  obtain ⟨fd_l_chain, F_l_chain⟩ := c.1.def_ 2 (d := d_l_chain) rfl
  have D_l_chain : Def K mg "_law_chain" s_l_chain := ⟨_, fd_l_chain, F_l_chain, He.glo_ok X G (c.1.fact 17)⟩
  obtain ⟨fd_l_bad_tree, F_l_bad_tree⟩ := c.1.def_ 3 (d := d_l_bad_tree) rfl
  have D_l_bad_tree : Def K mg "_law_bad_tree" s_l_bad_tree := ⟨_, fd_l_bad_tree, F_l_bad_tree, He.glo_ok X G (c.1.fact 18)⟩
  obtain ⟨fd_asked_tree, F_asked_tree⟩ := c.1.def_ 4 (d := d_asked_tree) rfl
  have D_asked_tree : Def K mg "asked_tree" s_asked_tree := ⟨_, fd_asked_tree, F_asked_tree, He.glo_ok X G (c.1.fact 19)⟩
  obtain ⟨fd_row_of, F_row_of⟩ := c.1.def_ 5 (d := d_row_of) rfl
  have D_row_of : Def K mg "row_of" s_row_of := ⟨_, fd_row_of, F_row_of, He.glo_ok X G (c.1.fact 20)⟩
  obtain ⟨fd_asked, F_asked⟩ := c.1.def_ 6 (d := d_asked) rfl
  have D_asked : Def K mg "asked" s_asked := ⟨_, fd_asked, F_asked, He.glo_ok X G (c.1.fact 21)⟩
  obtain ⟨fd_crowd, F_crowd⟩ := c.1.def_ 7 (d := d_crowd) rfl
  have D_crowd : Def K mg "crowd" s_crowd := ⟨_, fd_crowd, F_crowd, He.glo_ok X G (c.1.fact 22)⟩
  obtain ⟨fd_asked_whole, F_asked_whole⟩ := c.1.def_ 8 (d := d_asked_whole) rfl
  have D_asked_whole : Def K mg "asked_whole" s_asked_whole := ⟨_, fd_asked_whole, F_asked_whole, He.glo_ok X G (c.1.fact 23)⟩
  obtain ⟨fd_tree_of, F_tree_of⟩ := c.1.def_ 9 (d := d_tree_of) rfl
  have D_tree_of : Def K mg "tree_of" s_tree_of := ⟨_, fd_tree_of, F_tree_of, He.glo_ok X G (c.1.fact 24)⟩
  obtain ⟨fd_l_word_of, F_l_word_of⟩ := c.1.def_ 10 (d := d_l_word_of) rfl
  have D_l_word_of : Def K mg "_law_word_of" s_l_word_of := ⟨_, fd_l_word_of, F_l_word_of, He.glo_ok X G (c.1.fact 25)⟩
  obtain ⟨fd_l_tried, F_l_tried⟩ := c.1.def_ 11 (d := d_l_tried) rfl
  have D_l_tried : Def K mg "_law_tried" s_l_tried := ⟨_, fd_l_tried, F_l_tried, He.glo_ok X G (c.1.fact 26)⟩
  obtain ⟨fd_l_bad_row, F_l_bad_row⟩ := c.1.def_ 12 (d := d_l_bad_row) rfl
  have D_l_bad_row : Def K mg "_law_bad_row" s_l_bad_row := ⟨_, fd_l_bad_row, F_l_bad_row, He.glo_ok X G (c.1.fact 27)⟩
  obtain ⟨fd, F⟩ := c.1.def_ 13 (d := d_law) rfl
  have e := hfa.symm.trans (He.glo_ok X G (c.1.fact 28))
  cases e
  obtain ⟨tMOST, cMOST⟩ := He.int_ok X G (c.1.fact 29)
  obtain ⟨tLONGEST, cLONGEST⟩ := He.int_ok X G (c.1.fact 30)
  have words := words_ok c.2
  have gNoTree := He.glo_ok X G (c.1.fact 31)
  have gNoRow := He.glo_ok X G (c.1.fact 32)
  have gNoQuay := He.glo_ok X G (c.1.fact 33)
  have gNoOutcome := He.glo_ok X G (c.1.fact 34)
  have gNoRank := He.glo_ok X G (c.1.fact 35)
  have gNoNote := He.glo_ok X G (c.1.fact 36)
  have gMoorError := He.glo_ok X G (c.1.fact 37)
  have E_NoTree := exc_of gNoTree (words.x 3 (by decide))
  have E_NoRow := exc_of gNoRow (words.x 1 (by decide))
  have b := FunD.bindsA (ps := ["script"]) F fun _ _ _ _ _ _ us hl => match us, hl with | [_], _ => rfl
  refine ⟨fd, fun s v => b s [v] rfl, fun base _ _ => ?_⟩
  have O_l_cell_at : Own P w K mg base CX0 1 "_law_cell_at" ["script", "k"] (sp_l_cell_at K) := ok_l_cell_at D_l_cell_at T
  have O_l_shuffled : Own P w K mg base CX0 2 "_law_shuffled" ["script", "first", "size"] (sp_l_shuffled K) := ok_l_shuffled D_l_shuffled T O_l_cell_at
  have O_l_chain : Own P w K mg base CX0 3 "_law_chain" ["script", "size"] (sp_l_chain K) := ok_l_chain D_l_chain T O_l_shuffled O_l_cell_at
  have O_l_bad_tree : Own P w K mg base CX0 4 "_law_bad_tree" ["script", "way", "far"] (sp_l_bad_tree K) := ok_l_bad_tree D_l_bad_tree T O_l_cell_at O_l_chain
  have O_asked_tree : Own P w K mg base (L2.CX P w) 1 "asked_tree" ["parents"] (sp_asked_tree K) := ok_asked_tree D_asked_tree T cMOST E_NoTree
  have O_row_of : Own P w K mg base (L2.CX P w) 2 "row_of" ["parents"] (sp_row_of K) := ok_row_of D_row_of T O_asked_tree
  have O_asked : Own P w K mg base CX0 1 "asked" ["long", "wishes"] (sp_asked K) := ok_asked D_asked T cLONGEST
  have O_crowd : Own P w K mg base CX0 2 "crowd" ["long", "wishes"] (sp_crowd K) := ok_crowd D_crowd T O_asked
  have O_asked_whole : Own P w K mg base (L2.CX P w) 3 "asked_whole" ["wishes", "most"] (sp_asked_whole K) := ok_asked_whole D_asked_whole T E_NoRow O_crowd
  have O_tree_of : Own P w K mg base (L2.CX P w) 4 "tree_of" ["wishes"] (sp_tree_of K) := ok_tree_of D_tree_of T cMOST O_asked_whole
  have O_l_word_of : OwnP P w K mg base 1 "_law_word_of" ["e"] (sp_l_word_of K) := ok_l_word_of D_l_word_of T gNoQuay gNoTree gNoOutcome gNoRow gNoRank gNoNote
  have O_l_tried : Own P w K mg base CX0 5 "_law_tried" ["trees", "given"] (sp_l_tried K) := ok_l_tried D_l_tried T gMoorError words O_row_of O_tree_of O_l_word_of
  have O_l_bad_row : Own P w K mg base CX0 2 "_law_bad_row" ["script", "way"] (sp_l_bad_row K) := ok_l_bad_row D_l_bad_row T O_l_cell_at
  exact ok_law F T O_l_cell_at O_l_bad_tree O_l_tried O_l_bad_row

end Wm
open PySem PySem.W PySem.Calls PyProof.Rows
set_option maxHeartbeats 0 in
theorem PySem.Challenge.cw_wishmoor_k16_refused_trees_holds : PySem.Challenge.rw_wishmoor_k16_refused_trees.Holds := by
  w_on; o_law
  refine HandSHeadRun.head_any (r := OpenLaw.row PySem.Challenge.rw_wishmoor_k16_refused_trees) (q := view (OpenLaw.row PySem.Challenge.rw_wishmoor_k16_refused_trees).prog [26]) (H := Wm.hk) (ob := Wm.ob) (M := 4000) (loose := Wm.loose) (d := HandSHeadRun.topDef (OpenLaw.row PySem.Challenge.rw_wishmoor_k16_refused_trees).prog 26) (kwd := []) Wm.ob_eq
    (by kernel_rfl) (fun s => by kernel_rfl) Wm.run (by kernel_rfl) (by kernel_rfl) (by kernel_rfl) (by rfl) (by first | assumption | decide +kernel) (by decide +kernel) ⟨rfl, rfl, rfl, rfl, rfl, by decide +kernel⟩ ?hw ?hc
  case hw => w_witness2
  case hc =>
    refine L2.walk_ofE (l := PySem.Challenge.rw_wishmoor_k16_refused_trees) (n := 63) (k := 6) (x := "script") (CX := L2.CX0) rfl (by decide) (by kernel_rfl) ⟨rfl, by decide, by decide⟩ ?F (fun _ _ _ _ z => z)
    intro w mg fa h Y G hmg0
    obtain ⟨K, KX, c⟩ := Y
    have hmg : mg ("law" : PySem.Str) = some (.ref fa) := by
      have e : (HandSHeadRun.topDef (OpenLaw.row PySem.Challenge.rw_wishmoor_k16_refused_trees).prog 26).name = ("law" : PySem.Str) := by kernel_rfl
      rw [← e]
      exact hmg0
    obtain ⟨fd, hb, hF⟩ := Wm.facts (P := (PySem.Challenge.rw_wishmoor_k16_refused_trees).prog) (w := w) KX G hmg c
    exact ⟨K, fd, Wm.spLaw K, KX, hb, fun H a ns hl _ hS => ⟨a, ns, rfl, hS, hl, fun _ => rfl⟩, hF⟩
