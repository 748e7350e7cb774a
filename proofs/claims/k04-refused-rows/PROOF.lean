import PyProof.Rows.All
import Wide.All
import OpenK.AllK
import Wide.FinOn
import KE.KStateDown
import Lean
import HandS.Base
import HandS.Call
import HandS.List
import HandS.Comp
import HandS.Ends
import HandS.Iter
import HandS.Dict
import HandS.More
import HandS.Words
import HandS.WordsList
import HandS.WordsExc
import HandS.Exc
import HandS.ExcOwn
import HandS.TryOnly
import HandS.Evl
import HandS.IsInst
import HandS.Conv
import HandS.RevRange
import HandS.Rev
import HandS.SortRule
import HandS.SortInts
import HandS.SetFor
import HandS.Defaults
import HandS.Head0
import HandS.Head1
import HandS.Head2
import HandS.HeadEnd
import HandS.HeadHook1
import HandS.HeadHook2
import HandS.HotCalls
import HandS.ExcIs
import PySem.Challenge.RW_wishmoor_k04_refused_rows
set_option Elab.async false
set_option linter.all false
set_option maxRecDepth 100000
set_option maxHeartbeats 400000
/-! THE LAYER: a def as the top leaves it (Def), as callers use it (Own), and what Evl lacks -/
namespace Wm
open PySem PySem.Spec PyProof.Rows L2 Evl
abbrev Mg := Str → Option Value
abbrev Kf := PySem.W.Frag

structure Def (K : Kf) (mg : Mg) (x : Str) (st : Stmt) : Prop where
  ex : ∃ (f : Addr) (fd : FuncData), FunD K x x (defArgs st) (defBody st) (defScope st) [] [] f fd ∧ mg x = some (.ref f)
structure Own (P : Program) (w : World) (K : Kf) (mg : Mg) (base : Heap) (CX : CXT) (k : Nat) (x : Str) (ps : List Str) (sp : Sp) : Prop where
  ex : ∃ (f : Addr) (fd : FuncData), FnOk P w K mg base CX k f fd ps sp ∧ mg x = some (.ref f) ∧ PySem.W.keepIn K (.ref f) = true ∧ Binds K fd ps []
abbrev BindsWell (x : Str) (st : Stmt) (ps : List Str) : Prop := ∀ (kV doc pm : Value) (an : Option Addr) (cdv ct : Value) (us : List Value), us.length = ps.length →
  bindArgs (PySem.W.fnOf x x (defArgs st) (defBody st) (defScope st) .none kV doc pm an cdv ct) ⟨us, []⟩ = pure (ps.zip us)
section
variable {P : Program} {w : World} {K : Kf} {mg : Mg} {base : Heap}
/-- nothing is raised out of the def -/
theorem Def.calm {x : Str} {st : Stmt} {N ps : List Str} {k : Nat} {sp : Sp} (D : Def K mg x st) (S : FnScope N ps (defScope st)) (b : BindsWell x st ps) (len : ∀ vs H Q E, sp vs H Q E → vs.length = ps.length)
    (body : ∀ (f : Addr) (cdv : Value) (A : Around) (outer : List Env) (s : Shared) (H : Hp) (vs : List V) (Q : VK) (E : XK), Room k (A.deeper (envOfC x (defScope st) s.heap.objs.size f cdv)) → sp vs H Q E →
      ∃ t, PSs (cxOf CX0 P w K mg base N x (defScope st) f cdv A outer s H E).nox (defBody st) t ∧ t { nx := fun _ H' => Q .non H', rt := Q } (start N vs) H) : Own P w K mg base CX0 (k + 1) x ps sp := by
  obtain ⟨f, fd, F, m⟩ := D.ex
  refine ⟨f, fd, F.ok S len fun cdv A outer s H vs Q E hr h => ?_, m, F.kp, F.bindsN b⟩
  obtain ⟨t, h1, h2⟩ := body f cdv A outer s H vs Q E hr h
  exact ⟨t, h1.nox, h2⟩
/-- something may be raised out of it -/
theorem Def.hot {x : Str} {st : Stmt} {N ps : List Str} {k : Nat} {sp : Sp} (D : Def K mg x st) (S : FnScope N ps (defScope st)) (b : BindsWell x st ps) (len : ∀ vs H Q E, sp vs H Q E → vs.length = ps.length)
    (body : ∀ (f : Addr) (cdv : Value) (A : Around) (outer : List Env) (s : Shared) (H : Hp) (vs : List V) (Q : VK) (E : XK), Room k (A.deeper (envOfC x (defScope st) s.heap.objs.size f cdv)) → sp vs H Q E →
      ∃ t, PSs (cxOf (L2.CX P w) P w K mg base N x (defScope st) f cdv A outer s H E) (defBody st) t ∧ t { nx := fun _ H' => Q .non H', rt := Q } (start N vs) H) : Own P w K mg base (L2.CX P w) (k + 1) x ps sp := by
  obtain ⟨f, fd, F, m⟩ := D.ex
  exact ⟨f, fd, F.ok S len fun cdv A outer s H vs Q E hr h => body f cdv A outer s H vs Q E hr h, m, F.kp, F.bindsN b⟩
end
section
variable {X : Cx} {CX : CXT} {k : Nat} {ps : List Str} {sp : Sp} {E : XK} {x : Str} {p pos : Pos} {e : Expr} {es : List Expr} {t : TA}
theorem pe_own (F : Own X.prog X.w X.K X.mg X.base CX k x ps sp) (hr : Room k X.A) (hx : Passes CX X E) (ha : PA X (e :: es) t) (hg : Gl X x := by rfl) (hdb : (x == ("__debug__" : Str)) = false := by decide)
    (he : starEach (e :: es) X.env = (false, eval e X.env) :: starEach es X.env := by rfl) (hpl : (backTo pos (starEach es X.env)).any (·.1) = false := by rfl) : PE X (.Call (.Name x p) (e :: es) [] pos) (tCall sp [] E t) := by
  obtain ⟨f, fd, G, m, kp, b⟩ := F.ex
  exact pe_call G hr hg m kp b .nil hx ha hdb he hpl
theorem op_inK {K : Kf} (h : X.K = K) : OpR X (compareOp .In) (rIn K false) := h ▸ op_in_seq
theorem op_notInK {K : Kf} (h : X.K = K) : OpR X (compareOp .NotIn) (rIn K true) := h ▸ op_notIn_seq
theorem ix_listK {K : Kf} (h : X.K = K) : IxR X (rIxL K) := h ▸ ix_list
theorem ix_tupK {K : Kf} (h : X.K = K) : IxR X (rIxT K) := h ▸ ix_tup
theorem op_eqK {K : Kf} (h : X.K = K) (hu : X.A.units + 64 < cLine) : OpR X (compareOp .Eq) (rEqD K) := h ▸ op_eqD hu
theorem cr_lenK {K : Kf} (h : X.K = K) : CallR X (.builtin "len") (rLenS K) := h ▸ call_len_seq
theorem pg_tupK {K : Kf} {es : List Expr} {j n : Nat} {g : TGs} {pos : Pos} (h : X.K = K) (hc : X.calm = true) (hs : PGs X es g) (hn : (assignEach es X.env).length = n := by rfl) (ht : (assignEach es X.env).findIdx? (·.1) = none := by rfl) : PG X (.Tuple es j pos) (gTup K n g) := h ▸ pg_tup hc hs hn ht
theorem mt_indexK {K : Kf} (h : X.K = K) : MtR X "list.index" (rIndex K) := h ▸ mt_index
theorem pe_bmK {K : Kf} {o e : Expr} {es : List Expr} {to : TE} {t : TA} {name : Str} {apos cpos : Pos} {T id : String} {r : V → List V → Hp → VK → Prop} (h : X.K = K) (pa : PlainAttrs T) (slot : Slot T name id) (hty : typeOf (.builtin id) = pure (.type "method_descriptor")) (hm : MtR X id r) (ho : PE X o to) (ha : PA X (e :: es) t) (hbase : attributeBase o name X.env (eval o X.env) = eval o X.env := by rfl) (hfew : ((backTo cpos (starEach (e :: es) X.env)).all (fun x => !x.1) && (backToKw cpos (keywordEach [] X.env)).all (fun x => x.1.isSome) && decide ((e :: es).length + ([] : List Keyword).length + (if ([] : List Keyword).isEmpty then 0 else 1) < 30)) = true := by rfl) (hline : (apos.endLine == cpos.line) = true := by rfl) (hs : starEach (e :: es) X.env = (false, eval e X.env) :: starEach es X.env := by rfl) (hplain : (backTo cpos (starEach es X.env)).any (·.1) = false := by rfl) : PE X (.Call (.Attribute o name apos) (e :: es) [] cpos) (tBM K T r to t) := h ▸ pe_bm pa slot hty hm ho ha hbase hfew hline hs hplain
theorem cr_len : CallR X (.builtin "len") (rLenS X.K) := call_len_seq
theorem cr_list : CallR X (.type "list") (rListS X.K) := call_list_of
end
/-- the names that the program leaves to the built-ins -/
structure Txt (mg : Mg) : Prop where
  len : mg "len" = none
  range : mg "range" = none
  list : mg "list" = none
  isinstance : mg "isinstance" = none
  int : mg "int" = none
  bool : mg "bool" = none
  str : mg "str" = none
  tuple : mg "tuple" = none
  reversed : mg "reversed" = none
  sorted : mg "sorted" = none
  sum : mg "sum" = none
  min : mg "min" = none
  max : mg "max" = none
  set : mg "set" = none
  ValueError : mg "ValueError" = none
/-- the law's promise -/
def spLaw (K : Kf) : Sp := fun vs H Q _ => ∃ (a : Addr) (ns : List Int), vs = [.ref a] ∧ SqL K H a (ns.map V.int) ∧ ns.length ≤ 63 ∧ ∀ H', Q (.bl true) H'
/-! ### promises -/
def RetU (xs : List V) (H : Hp) (Q : VK) : Prop := ∀ p H2, H p = none → Ex H H2 → H2 p = some (.tup xs) → Q (.ref p) H2
section
variable {K : Kf} {σ : L2.St} {H H' : Hp} {ta tb te tx : TE} {t u : TT} {x y z v : V} {r : R2}
theorem retV_mono {Q : VK} (k : RetV v H Q) (e : Ex H H') : RetV v H' Q := fun H2 e2 => k H2 (e.trans e2)
theorem retL_mono {xs : List V} {Q : VK} (k : RetL xs H Q) (e : Ex H H') : RetL xs H' Q := fun p H2 hp e2 h => k p H2 (fresh_back e hp) (e.trans e2) h
/-- isinstance of a built-in class -/
theorem ev_isi {a b : String} {r : Bool} (ha : Ev ta σ H x) (ht : ∀ H1, Ex H H1 → TyX K H1 x (.type a)) (hk : kitB a b = some r) : Ev (tCB (rIsi K) (tCons ta (tCons (tC (.ty b)) tNil))) σ H (.bl r) := fun H1 e Q q =>
  ha H1 e _ fun H2 e2 => ⟨x, .ty b, .type a, .type b, r, rfl, ClsV.ty b, ht H2 (e.trans e2), kit_ty hk, q H2 e2⟩
theorem et_of {b : Bool} (h : Ev te σ H (.bl b)) : EvT (tTest te) σ H b := et_test h
/-- a call: what it hands back is any value of which P -/
def EvP (te : TE) (σ : L2.St) (H : Hp) (P : V → Hp → Prop) : Prop := ∀ H1, Ex H H1 → ∀ Q : VK, (∀ v H2, Ex H1 H2 → P v H2 → Q v H2) → te σ H1 Q
end
end Wm
/-! ### the head's facts, with one Bool more -/
namespace Wm
open PySem PySem.Spec PyProof.Rows L2
abbrev AlM : Type := He.AlD × Bool
def obsM (n : Nat) (fa : List He.Fa) (fn : List He.DefD) (mo : Kf → Bool) (g : Addr → Option Obj) : AlM := (He.obsDG n fa fn g, mo (He.frG g (He.asD g n)))
def SaysM (fa : List He.Fa) (fn : List He.DefD) (mo : Kf → Bool) (K : Kf) : Prop := He.SaysD fa fn K ∧ mo K = true
def hookM (n : Nat) (fa : List He.Fa) (fn : List He.DefD) (mo : Kf → Bool) : PySem.W.Hook where
  α := AlM
  obs := fun z => obsM n fa fn mo z.heap.get?
  val := fun _ => (He.valD fn, true)
  says := fun _ hp => ∃ K : Kf, K.In hp ∧ SaysM fa fn mo K
  of := fun _ _ e => ⟨_, He.frG_in, (Prod.mk.inj e).1, (Prod.mk.inj e).2⟩
  keeps := fun _ _ _ ⟨K, hK, c⟩ z => ⟨K, PySem.W.Frag.In.keeps hK z, c⟩
theorem obsM_eq {n : Nat} {fa : List He.Fa} {fn : List He.DefD} {mo : Kf → Bool} {g : Addr → Option Obj} {z : Shared} (h : ∀ a, g a = z.heap.get? a) : obsM n fa fn mo g = (hookM n fa fn mo).obs z := by
  rw [show g = z.heap.get? from funext h]
  rfl
end Wm

/-! ### the words of the walk: «ex» an extension, «sq» a list that stands, «ev» an expression's value, «et» a test's answer, «side» what an operator asks -/
local macro_rules | `(tactic| walk_at "ex") => `(tactic| first
  | assumption
  | exact Evl.Ex.refl _
  | (refine Evl.Ex.trans ?_ (by assumption); walk_at "ex"))
namespace Wm
open PySem PySem.Spec PyProof.Rows L2 Evl
section
variable {K : Kf} {σ : L2.St} {H H' : Hp} {ta tb te tx : TE} {t u : TT} {x y z v : V} {r : R2} {a : Addr} {xs : List V}
theorem sq_ex (e : Ex H H') (h : H a = some (.lst xs)) : SqL K H' a xs := sq_of (e a _ h)
theorem st_ex (e : Ex H H') (h : H a = some (.tup xs)) : SqT K H' a xs := st_of (e a _ h)
theorem rv_isN : RV (fun x y H Q => y = .non ∧ Q (.bl (decide (x = .non))) H) x .non H (.bl (decide (x = .non))) := fun H1 _ _ q => ⟨rfl, q H1 (Ex.refl H1)⟩
theorem rv_notN : RV (fun x y H Q => y = .non ∧ Q (.bl (!decide (x = .non))) H) x .non H (.bl (!decide (x = .non))) := fun H1 _ _ q => ⟨rfl, q H1 (Ex.refl H1)⟩
theorem rv_cat {p q : Addr} {xs ys : List V} (hp : H p = some (.lst xs)) (hq : H q = some (.lst ys)) (hz : xs.length + ys.length ≤ 100000) {Q : VK} (k : ∀ l, H l = none → Q (.ref l) (upd H l (.lst (xs ++ ys)))) : rCat (.ref p) (.ref q) H Q :=
  ⟨p, q, xs, ys, rfl, rfl, hp, hq, sz_of hz, k⟩
/-- xs + [..]: a new list -/
theorem el_cat {p : Addr} {xs ys : List V} (ha : Ev ta σ H (.ref p)) (hp : H p = some (.lst xs)) (hb : EvL tb σ H ys) (hz : xs.length + ys.length ≤ 100000) : EvL (tOp rCat ta tb) σ H (xs ++ ys) := fun H1 e Q q =>
  ha H1 e _ fun H2 e2 => hb H2 (e.trans e2) _ fun b H3 _ e3 hb3 => rv_cat (((e.trans e2).trans e3) p _ hp) hb3 hz fun l hl => q l _ (fresh_back (e2.trans e3) hl) ((e2.trans e3).trans (Ex.new hl)) upd_same
/-- [..] + [..] -/
theorem el_catLL {xs ys : List V} (ha : EvL ta σ H xs) (hb : EvL tb σ H ys) (hz : xs.length + ys.length ≤ 100000) : EvL (tOp rCat ta tb) σ H (xs ++ ys) := fun H1 e Q q =>
  ha H1 e _ fun p H2 _ e2 hp => hb H2 (e.trans e2) _ fun b H3 _ e3 hb3 => rv_cat (e3 p _ hp) hb3 hz fun l hl => q l _ (fresh_back (e2.trans e3) hl) ((e2.trans e3).trans (Ex.new hl)) upd_same
theorem el_is {xs ys : List V} (h : EvL te σ H xs) (e : xs = ys) : EvL te σ H ys := e ▸ h
/-- a call that hands back a value, a list, a tuple; what is told of the arguments is told at the heap of the call -/
theorem ev_callV {sp : Sp} {E : XK} {ta : TA} {vs : List V} (h : EvA ta σ H vs) (hs : ∀ H1, Ex H H1 → ∀ Q : VK, RetV z H1 Q → ∀ E : XK, sp vs H1 Q E) : Ev (tCall sp [] E ta) σ H z := fun H1 e Q q =>
  h H1 e _ fun H2 e2 => by
    rw [List.append_nil]
    exact hs H2 (e.trans e2) Q (fun H3 e3 => q H3 (e2.trans e3)) E
theorem el_callL {sp : Sp} {E : XK} {ta : TA} {vs xs : List V} (h : EvA ta σ H vs) (hs : ∀ H1, Ex H H1 → ∀ Q : VK, RetL xs H1 Q → ∀ E : XK, sp vs H1 Q E) : EvL (tCall sp [] E ta) σ H xs := fun H1 e Q q =>
  h H1 e _ fun H2 e2 => by
    rw [List.append_nil]
    exact hs H2 (e.trans e2) Q (fun p H3 hp e3 h3 => q p H3 (fresh_back e2 hp) (e2.trans e3) h3) E
theorem eu_callU {sp : Sp} {E : XK} {ta : TA} {vs xs : List V} (h : EvA ta σ H vs) (hs : ∀ H1, Ex H H1 → ∀ Q : VK, RetU xs H1 Q → ∀ E : XK, sp vs H1 Q E) : EvU (tCall sp [] E ta) σ H xs := fun H1 e Q q =>
  h H1 e _ fun H2 e2 => by
    rw [List.append_nil]
    exact hs H2 (e.trans e2) Q (fun p H3 hp e3 h3 => q p H3 (fresh_back e2 hp) (e2.trans e3) h3) E
theorem ev_ixL {i : Int} {p : Addr} {xs : List V} (ha : Ev ta σ H (.ref p)) (hb : Ev tb σ H (.int i)) (h : SqL K H p xs) (hv : atI xs i = some v) : Ev (tOp (rIxL K) ta tb) σ H v := ev_op ha hb (rv_ixL h hv)
theorem ev_ixNL {i : Int} {xs : List V} (ha : EvL ta σ H xs) (hb : ∀ H1, Ex H H1 → Ev tb σ H1 (.int i)) (hv : atI xs i = some v) : Ev (tOp (rIxL K) ta tb) σ H v := ev_opL1 ha hb fun _ _ h _ => rv_ixL (sq_of h) hv
theorem atI_int {ns : List Int} {i : Int} (h0 : 0 ≤ i) (h1 : i < ns.length) : atI (ns.map V.int) i = some (.int (ns.getD i.toNat 0)) := by
  obtain ⟨j, rfl⟩ := Int.eq_ofNat_of_zero_le h0
  refine atI_nat ?_
  have hj : j < ns.length := by omega
  rw [List.getElem?_map, List.getElem?_eq_getElem hj, Int.toNat_natCast, List.getD_eq_getElem?_getD, List.getElem?_eq_getElem hj]
  rfl
theorem atI_get? {xs : List V} {i : Int} {j : Nat} (hj : i = (j : Int)) (h : xs[j]? = some v) : atI xs i = some v := by
  rw [hj]
  exact atI_nat h
/-- reading a slot of a list of ints -/
theorem map_at {ns : List Int} {i : Nat} {w : V} (h : (ns.map V.int)[i]? = some w) : ∃ z, w = .int z ∧ ns[i]? = some z ∧ i < ns.length ∧ z ∈ ns ∧ ns.getD i 0 = z := by
  rw [List.getElem?_map] at h
  cases e : ns[i]? with
  | none =>
    rw [e] at h
    cases h
  | some z =>
    rw [e] at h
    obtain ⟨hi, _⟩ := List.getElem?_eq_some_iff.mp e
    exact ⟨z, (Option.some.inj h).symm, rfl, hi, List.mem_of_getElem? e, by rw [List.getD_eq_getElem?_getD, e]; rfl⟩
end
/-! ### == of lists -/
def vD : V → PyData
  | .non => .none
  | .bl b => .bool b
  | .int i => .int i
  | .str s => .str s
  | _ => .none
def flat1 : V → Bool
  | .non => true
  | .bl _ => true
  | .int _ => true
  | .str _ => true
  | _ => false
theorem dpAll_flat {K : Kf} {H : Hp} : ∀ {xs : List V}, xs.all flat1 = true → DpAll K H xs (xs.map vD)
  | [], _ => .nil
  | x :: r, h => by
    rw [List.all_cons, Bool.and_eq_true] at h
    refine .cons ?_ (dpAll_flat h.2)
    cases x with
    | non => exact .non
    | bl b => exact .bl b
    | int i => exact .int i
    | str s => exact .str s
    | _ => exact Bool.noConfusion h.1
theorem all_int (ns : List Int) : (ns.map V.int).all flat1 = true := by
  rw [List.all_map, List.all_eq_true]
  intro z _
  rfl
end Wm
local macro_rules | `(tactic| walk_at "sq") => `(tactic| first
  | assumption
  | exact Evl.sq_of (by assumption)
  | (refine Evl.ex_l ?_ (by assumption); walk_at "ex")
  | (refine Wm.sq_ex ?_ (by assumption); walk_at "ex"))
local macro_rules | `(tactic| walk_at "side") => `(tactic| first
  | assumption
  | exact ⟨by decide, by decide⟩
  | exact ⟨by omega, by omega⟩
  | exact Or.inl ⟨by omega, by omega⟩
  | exact Or.inr ⟨by omega, by omega⟩
  | (show (0 : Int) < _; omega)
  | (show (0 : Int) < _; decide)
  | omega)
local macro_rules | `(tactic| walk_at "at") => `(tactic| first
  | assumption
  | exact L2.atI_nat (by assumption)
  | exact Wm.atI_int (by omega) (by omega)
  | exact Wm.atI_get? (by omega) (by assumption))
local macro_rules | `(tactic| walk_at "call") => `(tactic| fail "no call")
local macro_rules | `(tactic| walk_at "ev") => `(tactic| first
  | with_reducible exact Evl.ev_c
  | ((with_reducible refine' Evl.ev_var ?h); (case h => rfl))
  | ((with_reducible refine' Evl.ev_op ?ha ?hb Evl.rv_I0); (case ha => walk_at "ev"); (case hb => walk_at "ev"))
  | ((with_reducible refine' Evl.ev_op ?ha ?hb (Evl.rv_I ?hc)); (case ha => walk_at "ev"); (case hb => walk_at "ev"); (case hc => walk_at "side"))
  | ((with_reducible refine' Evl.ev_op ?ha ?hb (Evl.rv_eq ?hc)); (case ha => walk_at "ev"); (case hb => walk_at "ev"); (case hc => rfl))
  | ((with_reducible refine' Evl.ev_op ?ha ?hb (Evl.rv_ne ?hc)); (case ha => walk_at "ev"); (case hb => walk_at "ev"); (case hc => rfl))
  | ((with_reducible refine' Evl.ev_op ?ha Evl.ev_c Wm.rv_isN); (case ha => walk_at "ev"))
  | ((with_reducible refine' Evl.ev_op ?ha Evl.ev_c Wm.rv_notN); (case ha => walk_at "ev"))
  | ((with_reducible refine' Evl.ev_len ?ha ?hb); (case ha => walk_at "ev"); (case hb => walk_at "sq"))
  | ((with_reducible refine' Wm.ev_ixL ?ha ?hb ?hc ?hd); (case ha => walk_at "ev"); (case hb => walk_at "ev"); (case hc => walk_at "sq"); (case hd => walk_at "at"))
  | ((with_reducible refine' Evl.ev_un ?ha Evl.ru_neg); (case ha => walk_at "ev"))
  | ((with_reducible refine' Evl.ev_notV ?ha); (case ha => walk_at "ev"))
  | ((with_reducible refine' Evl.ev_andV ?ha ?hb); (case ha => walk_at "ev"); (case hb => (intro _; walk_at "ev")))
  | ((with_reducible refine' Evl.ev_orV ?ha ?hb); (case ha => walk_at "ev"); (case hb => (intro _; walk_at "ev")))
  | walk_at "call")
local macro_rules | `(tactic| walk_at "ea") => `(tactic| first
  | with_reducible exact Evl.ea_nil
  | ((with_reducible refine' Evl.ea_cons ?ha ?hb); (case ha => walk_at "ev"); (case hb => walk_at "ea")))
local macro_rules | `(tactic| walk_at "el") => `(tactic| first
  | ((with_reducible refine' Evl.el_lst ?ha ?hb); (case ha => walk_at "ea"); (case hb => first | decide | exact Nat.le_of_ble_eq_true rfl | simp))
  | ((with_reducible refine' Evl.el_list ?ha ?hb); (case ha => walk_at "ev"); (case hb => walk_at "sq"))
  | walk_at "call")
local macro_rules | `(tactic| walk_at "et") => `(tactic| first
  | ((with_reducible refine' Evl.et_test ?ha); (case ha => walk_at "ev"))
  | ((with_reducible refine' Evl.et_B ?ha); (case ha => walk_at "ev"))
  | ((with_reducible refine' Evl.et_not ?ha); (case ha => walk_at "et"))
  | ((with_reducible refine' Evl.et_and ?ha ?hb); (case ha => walk_at "et"); (case hb => (intro _; walk_at "et")))
  | ((with_reducible refine' Evl.et_or ?ha ?hb); (case ha => walk_at "et"); (case hb => (intro _; walk_at "et"))))
local macro_rules | `(tactic| walk_at "eu") => `(tactic| first
  | ((with_reducible refine' Evl.eu_tup ?ha ?hb); (case ha => walk_at "ea"); (case hb => first | decide | exact Nat.le_of_ble_eq_true rfl | simp)))

/-! ### dicts by ints, == of lists, comprehensions by what they give -/
namespace Wm
open PySem PySem.Spec PyProof.Rows L2 Evl
section
variable {K : Kf} {σ : L2.St} {H H' : Hp} {ta tb te tl tx td ty tv : TE} {t u : TT} {x y z v : V} {r : R2} {a d : Addr} {xs ys : List V} {D : Ends} {tz : TS}
theorem ev_dnotin {k : Int} {kvs : List (Key × V)} (ha : Ev ty σ H (.int k)) (hb : Ev td σ H (.ref d)) (hd : H d = some (.dK kvs)) : Ev (tDNotIn ty td) σ H (.bl (!(valV kvs (Sum.inl k : Key)).isSome)) := fun H1 e Q q =>
  ha H1 e _ fun H2 e2 => hb H2 (e.trans e2) _ fun H3 e3 => ⟨d, _, rfl, DGet.k (k := Sum.inl k) (((e.trans e2).trans e3) d _ hd), q H3 (e2.trans e3)⟩
theorem ev_din {k : Int} {kvs : List (Key × V)} (ha : Ev ty σ H (.int k)) (hb : Ev td σ H (.ref d)) (hd : H d = some (.dK kvs)) : Ev (tDIn ty td) σ H (.bl (valV kvs (Sum.inl k : Key)).isSome) := fun H1 e Q q =>
  ha H1 e _ fun H2 e2 => hb H2 (e.trans e2) _ fun H3 e3 => ⟨d, _, rfl, DGet.k (k := Sum.inl k) (((e.trans e2).trans e3) d _ hd), q H3 (e2.trans e3)⟩
theorem s_dput {k : Int} {kvs : List (Key × V)} (hv : Ev tv σ H v) (ho : Ev td σ H (.ref d)) (hi : Ev ty σ H (.int k)) (hd : H d = some (.dK kvs)) (hz : kvs.length < 100000) (q : ∀ H1, Ex H H1 → D.nx σ (upd H1 d (.dK (putK kvs (Sum.inl k) v)))) : sDPut td ty tv D σ H :=
  hv H (Ex.refl H) _ fun H1 e1 => ho H1 e1 _ fun H2 e2 => hi H2 (e1.trans e2) _ fun H3 e3 =>
    ⟨d, _, rfl, DPut.k (k := Sum.inl k) (((e1.trans e2).trans e3) d _ hd) (sz_lt hz), q H3 ((e1.trans e2).trans e3)⟩
theorem q_dput {k : Int} {kvs : List (Key × V)} (hv : Ev tv σ H v) (ho : Ev td σ H (.ref d)) (hi : Ev ty σ H (.int k)) (hd : H d = some (.dK kvs)) (hz : kvs.length < 100000) (q : ∀ H1, Ex H H1 → tz D σ (upd H1 d (.dK (putK kvs (Sum.inl k) v)))) : tSeq (sDPut td ty tv) tz D σ H :=
  s_dput (D := { D with nx := tz D }) hv ho hi hd hz q
/-- x = {} -/
theorem q_dnew {i : Nat} (q : ∀ d, H d = none → tz D (σ.set i (some (.ref d))) (upd H d (.dK []))) : tSeq (tAsg tDNewK (gName i)) tz D σ H := fun d hd => q d hd
/-! == -/
def fl0 : V → Bool
  | .non => true
  | .int _ => true
  | .str _ => true
  | _ => false
theorem eqv_fl0 {x y : V} (hx : fl0 x = true) (hy : fl0 y = true) : PyData.eqv (vD x) (vD y) = decide (x = y) := by
  cases x with
  | non => cases y with
    | non => simp [vD, PyData.eqv]
    | int j => simp [vD, PyData.eqv]
    | str s => simp [vD, PyData.eqv]
    | _ => exact Bool.noConfusion hy
  | int i => cases y with
    | non => simp [vD, PyData.eqv]
    | int j => by_cases e : i = j <;> simp [vD, PyData.eqv, e]
    | str s => simp [vD, PyData.eqv]
    | _ => exact Bool.noConfusion hy
  | str s => cases y with
    | non => simp [vD, PyData.eqv]
    | int j => simp [vD, PyData.eqv]
    | str u => by_cases e : s = u <;> simp [vD, PyData.eqv, e]
    | _ => exact Bool.noConfusion hy
  | _ => exact Bool.noConfusion hx
theorem eqvAll_fl0 : ∀ {xs ys : List V}, xs.all fl0 = true → ys.all fl0 = true → PyData.eqvAll (xs.map vD) (ys.map vD) = decide (xs = ys)
  | [], [], _, _ => by simp [PyData.eqvAll]
  | [], _ :: _, _, _ => by simp [PyData.eqvAll]
  | _ :: _, [], _, _ => by simp [PyData.eqvAll]
  | x :: xs, y :: ys, h, g => by
    rw [List.all_cons, Bool.and_eq_true] at h g
    show (PyData.eqv (vD x) (vD y) && PyData.eqvAll (xs.map vD) (ys.map vD)) = _
    rw [eqv_fl0 h.1 g.1, eqvAll_fl0 h.2 g.2]
    by_cases e : x = y <;> by_cases e2 : xs = ys <;> simp [e, e2]
theorem fl0_flat1 {x : V} (h : fl0 x = true) : flat1 x = true := by
  cases x <;> first | rfl | exact Bool.noConfusion h
theorem all_flat1 {xs : List V} (h : xs.all fl0 = true) : xs.all flat1 = true := List.all_eq_true.mpr fun x hx => fl0_flat1 (List.all_eq_true.mp h x hx)
def fl2 : V → Bool
  | .non => true
  | .bl _ => true
  | .int _ => true
  | _ => false
theorem canLayAll_fl2 : ∀ {xs : List V}, xs.all fl2 = true → PyData.canLayAll0 (xs.map vD) = true
  | [], _ => rfl
  | x :: xs, h => by
    rw [List.all_cons, Bool.and_eq_true] at h
    show (PyData.canLay0 (vD x) && PyData.canLayAll0 (xs.map vD)) = true
    rw [canLayAll_fl2 h.2, Bool.and_true]
    cases x <;> first | rfl | exact Bool.noConfusion h.1
theorem depthAll_fl2 : ∀ {xs : List V}, xs.all fl2 = true → PyData.depthAll (xs.map vD) ≤ 1
  | [], _ => by simp [PyData.depthAll]
  | x :: xs, h => by
    rw [List.all_cons, Bool.and_eq_true] at h
    have ih := depthAll_fl2 h.2
    have h1 : PyData.depth (vD x) ≤ 1 := by
      cases x <;> first | (simp [vD, PyData.depth]; done) | exact Bool.noConfusion h.1
    simp only [List.map_cons, PyData.depthAll]
    omega
theorem shaped_list {xs : List V} (h : xs.all fl2 = true) : SeqAt.shaped (.list (xs.map vD)) = true := by
  unfold SeqAt.shaped
  rw [Bool.and_eq_true, decide_eq_true_eq]
  refine ⟨canLayAll_fl2 h, ?_⟩
  have h1 := depthAll_fl2 h
  simp only [PyData.depth]
  omega
/-- None, ints -/
def fl3 : V → Bool
  | .non => true
  | .int _ => true
  | _ => false
theorem fl3_0 {xs : List V} (h : xs.all fl3 = true) : xs.all fl0 = true := List.all_eq_true.mpr fun x hx => by
  have q := List.all_eq_true.mp h x hx
  cases x <;> first | rfl | exact Bool.noConfusion q
theorem fl3_2 {xs : List V} (h : xs.all fl3 = true) : xs.all fl2 = true := List.all_eq_true.mpr fun x hx => by
  have q := List.all_eq_true.mp h x hx
  cases x <;> first | rfl | exact Bool.noConfusion q
theorem rv_eqL {p q : Addr} (hp : SqL K H p xs) (hq : SqL K H q ys) (fx : xs.all fl3 = true) (fy : ys.all fl3 = true) : RV (rEqD K) (.ref p) (.ref q) H (.bl (decide (xs = ys))) := fun H1 e Q k =>
  ⟨_, _, .lst (ex_l e hp) (dpAll_flat (all_flat1 (fl3_0 fx))), .lst (ex_l e hq) (dpAll_flat (all_flat1 (fl3_0 fy))), shaped_list (fl3_2 fx), shaped_list (fl3_2 fy), by
    rw [show PyData.eqv (.list (xs.map vD)) (.list (ys.map vD)) = decide (xs = ys) by rw [PyData.eqv]; exact eqvAll_fl0 (fl3_0 fx) (fl3_0 fy)]
    exact k H1 (Ex.refl H1)⟩
theorem rv_neL {p q : Addr} (hp : SqL K H p xs) (hq : SqL K H q ys) (fx : xs.all fl3 = true) (fy : ys.all fl3 = true) : RV (rNeD K) (.ref p) (.ref q) H (.bl (!decide (xs = ys))) := fun H1 e Q k =>
  ⟨_, _, .lst (ex_l e hp) (dpAll_flat (all_flat1 (fl3_0 fx))), .lst (ex_l e hq) (dpAll_flat (all_flat1 (fl3_0 fy))), shaped_list (fl3_2 fx), shaped_list (fl3_2 fy), by
    rw [show PyData.eqv (.list (xs.map vD)) (.list (ys.map vD)) = decide (xs = ys) by rw [PyData.eqv]; exact eqvAll_fl0 (fl3_0 fx) (fl3_0 fy)]
    exact k H1 (Ex.refl H1)⟩
theorem ev_eqL {p q : Addr} (ha : Ev ta σ H (.ref p)) (hb : Ev tb σ H (.ref q)) (hp : SqL K H p xs) (hq : SqL K H q ys) (fx : xs.all fl3 = true) (fy : ys.all fl3 = true) : Ev (tOp (rEqD K) ta tb) σ H (.bl (decide (xs = ys))) := ev_op ha hb (rv_eqL hp hq fx fy)
theorem ev_neL {p q : Addr} (ha : Ev ta σ H (.ref p)) (hb : Ev tb σ H (.ref q)) (hp : SqL K H p xs) (hq : SqL K H q ys) (fx : xs.all fl3 = true) (fy : ys.all fl3 = true) : Ev (tOp (rNeD K) ta tb) σ H (.bl (!decide (xs = ys))) := ev_op ha hb (rv_neL hp hq fx fy)
/-- against a list that is made on the way -/
theorem ev_eqLN {p : Addr} (ha : Ev ta σ H (.ref p)) (hb : EvL tb σ H ys) (hp : SqL K H p xs) (fx : xs.all fl3 = true) (fy : ys.all fl3 = true) : Ev (tOp (rEqD K) ta tb) σ H (.bl (decide (xs = ys))) :=
  ev_opL ha hb fun _ _ h e => rv_eqL (ex_l e hp) (sq_of h) fx fy
theorem ev_neLN {p : Addr} (ha : Ev ta σ H (.ref p)) (hb : EvL tb σ H ys) (hp : SqL K H p xs) (fx : xs.all fl3 = true) (fy : ys.all fl3 = true) : Ev (tOp (rNeD K) ta tb) σ H (.bl (!decide (xs = ys))) :=
  ev_opL ha hb fun _ _ h e => rv_neL (ex_l e hp) (sq_of h) fx fy
theorem ev_neNN (ha : EvL ta σ H xs) (hb : EvL tb σ H ys) (fx : xs.all fl3 = true) (fy : ys.all fl3 = true) : Ev (tOp (rNeD K) ta tb) σ H (.bl (!decide (xs = ys))) :=
  ev_opLL ha hb fun _ _ _ h g _ => rv_neL (sq_of h) (sq_of g) fx fy
theorem ev_eqNL {q : Addr} (ha : EvL ta σ H xs) (hb : Ev tb σ H (.ref q)) (hq : SqL K H q ys) (fx : xs.all fl3 = true) (fy : ys.all fl3 = true) : Ev (tOp (rEqD K) ta tb) σ H (.bl (decide (xs = ys))) :=
  ev_opL1 ha (fun _ e => hb.mono e) fun _ _ h e => rv_eqL (sq_of h) (ex_l e hq) fx fy
theorem ev_neNL {q : Addr} (ha : EvL ta σ H xs) (hb : Ev tb σ H (.ref q)) (hq : SqL K H q ys) (fx : xs.all fl3 = true) (fy : ys.all fl3 = true) : Ev (tOp (rNeD K) ta tb) σ H (.bl (!decide (xs = ys))) :=
  ev_opL1 ha (fun _ e => hb.mono e) fun _ _ h e => rv_neL (sq_of h) (ex_l e hq) fx fy
/-! comprehensions -/
theorem el_lcR2 {ta : TA} {j : Nat} {vs : List Nat} {lo n : Int} (f : Nat → Bool) (g : Nat → V) (h : EvA ta σ H [.int lo, .int n]) (hn : 0 ≤ lo ∧ lo ≤ 40000 ∧ -40000 ≤ n ∧ n ≤ 40000) (hw : ∀ x, wipe ((wipe σ vs).set j (some x)) vs = wipe σ vs)
    (ht : ∀ (i : Nat) H1, Ex H H1 → lo + (i : Int) < n → EvT t ((wipe σ vs).set j (some (.int (lo + (i : Int))))) H1 (f i)) (he : ∀ (i : Nat) H1, Ex H H1 → lo + (i : Int) < n → f i = true → Ev te ((wipe σ vs).set j (some (.int (lo + (i : Int))))) H1 (g i)) :
    EvL (tLc (iRng2 ta) (gName j) t te vs) σ H (given (n - lo).toNat f g) := fun H0 e Q q => h H0 e _ fun H1 e1 => ⟨lo, n, rfl, ⟨by omega, by omega, by omega, by omega⟩, fun Dl hD =>
  lc_range (lo := lo) (n := (n - lo).toNat) (Cw H1 f g Dl) ⟨hD, Ex.new hD, upd_same⟩ (fun i H' hi p => ⟨hw _, cw_turn p (by omega) (ht i H1 (e.trans e1) (by omega)) (fun hf => he i H1 (e.trans e1) (by omega) hf)⟩) (fun H' p => q Dl H' (fresh_back e1 p.1) (e1.trans p.2.1) p.2.2)⟩
theorem given_list {p : V → Bool} {g : V → V} : ∀ xs : List V, given xs.length (fun i => p (xs.getD i .non)) (fun i => g (xs.getD i .non)) = (xs.filter p).map g := by
  intro xs
  have key : ∀ n, n ≤ xs.length → given n (fun i => p (xs.getD i .non)) (fun i => g (xs.getD i .non)) = ((xs.take n).filter p).map g := by
    intro n
    induction n with
    | zero => intro _; rfl
    | succ n ih =>
      intro hn
      have hlt : n < xs.length := hn
      have e : xs.take (n + 1) = xs.take n ++ [xs.getD n .non] := by
        rw [List.take_add_one, List.getElem?_eq_getElem hlt, List.getD_eq_getElem?_getD, List.getElem?_eq_getElem hlt]
        rfl
      rw [e, List.filter_append, List.map_append]
      cases hf : p (xs.getD n .non) with
      | true =>
        rw [given_yes hf, ih (Nat.le_of_lt hlt), List.filter_cons, if_pos hf]
        rfl
      | false =>
        rw [given_no hf, ih (Nat.le_of_lt hlt), List.filter_cons, if_neg (by rw [hf]; decide)]
        rw [List.filter_nil, List.map_nil, List.append_nil]
  rw [key xs.length (Nat.le_refl _), List.take_length]
theorem getD_of {xs : List V} {i : Nat} (h : xs[i]? = some x) : xs.getD i .non = x := by rw [List.getD_eq_getElem?_getD, h]; rfl
theorem el_lcX {vs : List Nat} {j : Nat} (p : V → Bool) (g : V → V) (h : Ev tl σ H (.ref a)) (hx : SqL K H a xs) (hz : xs.length ≤ 40000) (hw : ∀ x, wipe ((wipe σ vs).set j (some x)) vs = wipe σ vs)
    (ht : ∀ x H1, Ex H H1 → x ∈ xs → EvT t ((wipe σ vs).set j (some x)) H1 (p x)) (he : ∀ x H1, Ex H H1 → x ∈ xs → p x = true → Ev te ((wipe σ vs).set j (some x)) H1 (g x)) :
    EvL (tLc (iList K tl) (gName j) t te vs) σ H ((xs.filter p).map g) := by
  rw [← given_list]
  refine el_lcL _ _ h hx hz hw (fun i x H1 e hi => ?_) (fun i x H1 e hi hp => ?_)
  · rw [getD_of hi]
    exact ht x H1 e (List.mem_of_getElem? hi)
  · rw [getD_of hi] at hp ⊢
    exact he x H1 e (List.mem_of_getElem? hi) hp
theorem el_lcXN {vs : List Nat} {j : Nat} (p : V → Bool) (g : V → V) (h : EvL tl σ H xs) (hz : xs.length ≤ 40000) (hw : ∀ x, wipe ((wipe σ vs).set j (some x)) vs = wipe σ vs)
    (ht : ∀ x H1, Ex H H1 → x ∈ xs → EvT t ((wipe σ vs).set j (some x)) H1 (p x)) (he : ∀ x H1, Ex H H1 → x ∈ xs → p x = true → Ev te ((wipe σ vs).set j (some x)) H1 (g x)) :
    EvL (tLc (iList K tl) (gName j) t te vs) σ H ((xs.filter p).map g) := by
  rw [← given_list]
  refine el_lcNL _ _ h hz hw (fun i x H1 e hi => ?_) (fun i x H1 e hi hp => ?_)
  · rw [getD_of hi]
    exact ht x H1 e (List.mem_of_getElem? hi)
  · rw [getD_of hi] at hp ⊢
    exact he x H1 e (List.mem_of_getElem? hi) hp
theorem et_yes : EvT tYes σ H true := fun H1 _ _ q => q H1 (Ex.refl H1)
theorem given_all {n : Nat} {f : Nat → Bool} {g : Nat → V} (h : ∀ i, f i = true) : given n f g = (List.range n).map g := by
  unfold given
  rw [List.filter_eq_self.mpr fun i _ => h i]
end
/-- lists of naturals as Python's -/
def vn (ws : List Nat) : List V := ws.map fun (w : Nat) => V.int (w : Int)
theorem vn_len (ws : List Nat) : (vn ws).length = ws.length := List.length_map ..
theorem vn_ints (ws : List Nat) : vn ws = (ws.map Int.ofNat).map V.int := by
  unfold vn
  rw [List.map_map]
  rfl
theorem vn_at {ws : List Nat} {i : Nat} {x : V} (h : (vn ws)[i]? = some x) : ∃ w : Nat, x = .int (w : Int) ∧ ws[i]? = some w ∧ i < ws.length ∧ w ∈ ws := by
  unfold vn at h
  rw [List.getElem?_map] at h
  cases e : ws[i]? with
  | none =>
    rw [e] at h
    cases h
  | some w =>
    rw [e] at h
    obtain ⟨hi, _⟩ := List.getElem?_eq_some_iff.mp e
    exact ⟨w, (Option.some.inj h).symm, rfl, hi, List.mem_of_getElem? e⟩
theorem vn_get {ws : List Nat} {i w : Nat} (h : ws[i]? = some w) : (vn ws)[i]? = some (.int (w : Int)) := by
  unfold vn
  rw [List.getElem?_map, h]
  rfl
theorem vn_fl3 (ws : List Nat) : (vn ws).all fl3 = true := by
  unfold vn
  rw [List.all_map, List.all_eq_true]
  intro z _
  rfl
theorem vn_snoc (ws : List Nat) (w : Nat) : vn (ws ++ [w]) = vn ws ++ [.int (w : Int)] := by unfold vn; rw [List.map_append]; rfl
theorem vn_inj : ∀ {ws us : List Nat}, vn ws = vn us → ws = us
  | [], [], _ => rfl
  | [], _ :: _, h => by cases h
  | _ :: _, [], h => by cases h
  | w :: ws, u :: us, h => by
    have h1 := List.cons.inj h
    have e : (w : Int) = (u : Int) := V.int.inj h1.1
    rw [Int.ofNat.inj e, vn_inj h1.2]
theorem ints_fl3 (ns : List Int) : (ns.map V.int).all fl3 = true := by
  rw [List.all_map, List.all_eq_true]
  intro z _
  rfl
/-- a place or None -/
def vo : Option Nat → V
  | none => .non
  | some p => .int (p : Int)
def vos (l : List (Option Nat)) : List V := l.map vo
theorem vos_fl3 (l : List (Option Nat)) : (vos l).all fl3 = true := by
  unfold vos
  rw [List.all_map, List.all_eq_true]
  intro z _
  cases z <;> rfl
theorem vos_len (l : List (Option Nat)) : (vos l).length = l.length := List.length_map ..
theorem vos_snoc (l : List (Option Nat)) (o : Option Nat) : vos (l ++ [o]) = vos l ++ [vo o] := by unfold vos; rw [List.map_append]; rfl
theorem vos_at {l : List (Option Nat)} {i : Nat} {x : V} (h : (vos l)[i]? = some x) : ∃ o, x = vo o ∧ l[i]? = some o ∧ i < l.length := by
  unfold vos at h
  rw [List.getElem?_map] at h
  cases e : l[i]? with
  | none =>
    rw [e] at h
    cases h
  | some w =>
    rw [e] at h
    obtain ⟨hi, _⟩ := List.getElem?_eq_some_iff.mp e
    exact ⟨w, (Option.some.inj h).symm, rfl, hi⟩
theorem vo_inj {a b : Option Nat} (h : vo a = vo b) : a = b := by
  cases a with
  | none => cases b with
    | none => rfl
    | some q => cases h
  | some p => cases b with
    | none => cases h
    | some q => rw [Int.ofNat.inj (V.int.inj h)]
theorem vos_inj : ∀ {l m : List (Option Nat)}, vos l = vos m → l = m
  | [], [], _ => rfl
  | [], _ :: _, h => by cases h
  | _ :: _, [], h => by cases h
  | w :: ws, u :: us, h => by
    have h1 := List.cons.inj h
    rw [vo_inj h1.1, vos_inj h1.2]
theorem vos_some (ws : List Nat) : vos (ws.map some) = vn ws := by
  unfold vos vn
  rw [List.map_map]
  rfl
theorem take_succ_of {α : Type} {l : List α} {i : Nat} {x : α} (h : l[i]? = some x) : l.take (i + 1) = l.take i ++ [x] := by
  rw [List.take_add_one, h]
  rfl
end Wm

/-! ### lists of lists -/
namespace Wm
open PySem PySem.Spec PyProof.Rows L2 Evl
def MAt (mk : List V → HO) (H : Hp) (ps : List Addr) (rs : List (List V)) : Prop := Paired (fun p r => H p = some (mk r)) ps rs
abbrev LsAt : Hp → List Addr → List (List V) → Prop := MAt HO.lst
theorem MAt.ex {mk : List V → HO} {H H' : Hp} (e : Ex H H') : ∀ {ps : List Addr} {rs : List (List V)}, MAt mk H ps rs → MAt mk H' ps rs
  | _, _, .nil => .nil
  | _, _, .cons h t => .cons (e _ _ h) (MAt.ex e t)
theorem MAt.app {mk : List V → HO} {H : Hp} : ∀ {ps qs : List Addr} {rs ts : List (List V)}, MAt mk H ps rs → MAt mk H qs ts → MAt mk H (ps ++ qs) (rs ++ ts)
  | _, _, _, _, .nil, h => h
  | _, _, _, _, .cons h t, g => .cons h (MAt.app t g)
theorem MAt.len {mk : List V → HO} {H : Hp} {ps : List Addr} {rs : List (List V)} (h : MAt mk H ps rs) : ps.length = rs.length := Paired.length h
theorem MAt.get {mk : List V → HO} {H : Hp} : ∀ {ps : List Addr} {rs : List (List V)} {i : Nat} {p : Addr}, MAt mk H ps rs → ps[i]? = some p → ∃ r, rs[i]? = some r ∧ H p = some (mk r)
  | _, _, _, _, .nil, h => by cases h
  | _, _, 0, _, .cons h t, e => by
    cases e
    exact ⟨_, rfl, h⟩
  | _, _, i + 1, _, .cons _ t, e => MAt.get (i := i) t e
/-- a new list of new objects; of new lists -/
def EvM (mk : List V → HO) (te : TE) (σ : L2.St) (H : Hp) (rs : List (List V)) : Prop := ∀ H1, Ex H H1 → ∀ Q : VK, (∀ p ps H2, H1 p = none → Ex H1 H2 → H2 p = some (.lst (ps.map V.ref)) → MAt mk H2 ps rs → Q (.ref p) H2) → te σ H1 Q
def EvX (mk : List V → HO) (te : TE) (σ : L2.St) (H : Hp) (xs : List V) : Prop := ∀ H1, Ex H H1 → ∀ Q : VK, (∀ p H2, H1 p = none → Ex H1 H2 → H2 p = some (mk xs) → Q (.ref p) H2) → te σ H1 Q
abbrev EvR := EvM HO.lst
section
variable {K : Kf} {σ : L2.St} {H H' : Hp} {ta tb te tl tx : TE} {t u : TT} {x y z v : V}
theorem er_lcR1 {mk : List V → HO} {ta : TA} {j : Nat} {vs : List Nat} {n : Int} (g : Nat → List V) (h : EvA ta σ H [.int n]) (hn : 0 ≤ n ∧ n ≤ 40000) (hw : ∀ x, wipe ((wipe σ vs).set j (some x)) vs = wipe σ vs)
    (he : ∀ (i : Nat) H1, Ex H H1 → (i : Int) < n → EvX mk te ((wipe σ vs).set j (some (.int (i : Int)))) H1 (g i)) : EvM mk (tLc (iRng1 ta) (gName j) tYes te vs) σ H ((List.range n.toNat).map g) := fun H0 e Q q => h H0 e _ fun H1 e1 => ⟨n, rfl, by omega, by omega, fun Dl hD =>
  lc_range (lo := 0) (n := n.toNat) (fun i H' => Ex H1 H' ∧ ∃ ps : List Addr, H' Dl = some (.lst (ps.map V.ref)) ∧ MAt mk H' ps ((List.range i).map g) ∧ Dl ∉ ps) ⟨Ex.new hD, [], upd_same, .nil, List.not_mem_nil⟩
    (fun i H' hi ⟨eH, ps, hl, hp, hn2⟩ => by
      have e0 : (0 : Int) + (i : Int) = (i : Int) := Int.zero_add _
      refine ⟨hw _, ?_⟩
      show te _ H' _
      have q2 := he i H' ((e.trans e1).trans eH) (by omega)
      rw [← e0] at q2
      refine q2 H' (Ex.refl _) _ fun p H2 np e2 h2 => ?_
      have hl2 := e2 Dl _ hl
      have npD : p ≠ Dl := fun z => by
        rw [z] at np
        rw [np] at hl
        cases hl
      refine ⟨_, hl2, ?_, (eH.trans e2).mut hD, ps ++ [p], ?_, ?_, ?_⟩
      · have := hp.len
        rw [List.length_map, List.length_range] at this
        rw [List.length_map, this]
        exact sz_lt (by omega)
      · rw [upd_same, List.map_append]
        rfl
      · rw [List.range_succ, List.map_append]
        have k1 : ∀ {qs : List Addr} {rs : List (List V)}, Dl ∉ qs → MAt mk H2 qs rs → MAt mk (upd H2 Dl (.lst (ps.map V.ref ++ [.ref p]))) qs rs := by
          intro qs rs hd h
          induction h with
          | nil => exact .nil
          | cons a b ih =>
            rw [List.mem_cons, not_or] at hd
            exact .cons (by rw [upd_ne (Ne.symm hd.1)]; exact a) (ih hd.2)
        exact (k1 hn2 (hp.ex e2)).app (.cons (by rw [upd_ne npD]; exact h2) .nil)
      · rw [List.mem_append, List.mem_singleton, not_or]
        exact ⟨hn2, Ne.symm npD⟩)
    (fun H' ⟨eH, ps, hl, hp, _⟩ => q Dl ps H' (fresh_back e1 hD) (e1.trans eH) hl hp)⟩
theorem er_cat {p : Addr} {ps : List Addr} {rs ts : List (List V)} (ha : Ev ta σ H (.ref p)) (hp : H p = some (.lst (ps.map V.ref))) (hl : LsAt H ps rs) (hb : EvR tb σ H ts) (hz : rs.length + ts.length ≤ 100000) : EvR (tOp rCat ta tb) σ H (rs ++ ts) := fun H1 e Q q =>
  ha H1 e _ fun H2 e2 => hb H2 (e.trans e2) _ fun b qs H3 _ e3 hb3 hq => rv_cat (((e.trans e2).trans e3) p _ hp) hb3 (by rw [List.length_map, List.length_map, hl.len, hq.len]; exact hz) fun l hl2 =>
    q l (ps ++ qs) _ (fresh_back (e2.trans e3) hl2) ((e2.trans e3).trans (Ex.new hl2)) (by rw [upd_same, List.map_append]) (((hl.ex ((e.trans e2).trans e3)).app hq).ex (Ex.new hl2))
theorem s_asgR {i : Nat} {rs : List (List V)} {D : Ends} (h : EvR te σ H rs) (k : ∀ p ps H1, H p = none → Ex H H1 → H1 p = some (.lst (ps.map V.ref)) → LsAt H1 ps rs → D.nx (σ.set i (some (.ref p))) H1) : tAsg te (gName i) D σ H := h H (Ex.refl H) _ fun p ps H1 hp e h1 h2 => k p ps H1 hp e h1 h2
theorem q_asgR {i : Nat} {rs : List (List V)} {D : Ends} {tz : TS} (h : EvR te σ H rs) (k : ∀ p ps H1, H p = none → Ex H H1 → H1 p = some (.lst (ps.map V.ref)) → LsAt H1 ps rs → tz D (σ.set i (some (.ref p))) H1) : tSeq (tAsg te (gName i)) tz D σ H := s_asgR (D := { D with nx := tz D }) h k
/-- [[]] -/
theorem er_nil1 : EvR (tLst (tCons (tLst tNil) tNil)) σ H [[]] := fun H1 e Q q => ⟨Nat.zero_le _, fun p hp => ⟨sz_of (show 1 ≤ 100000 by decide), fun l hl => by
  have npl : p ≠ l := fun z => by
    rw [z, upd_same] at hl
    cases hl
  refine q l [p] _ (fresh_back (Ex.new hp) hl) ((Ex.new hp).trans (Ex.new hl)) upd_same (.cons ?_ .nil)
  rw [upd_ne npl, upd_same]⟩⟩
/-- how many turns give -/
theorem given_count {α : Type} (f : α → Bool) (d : α) (g : Nat → V) (l : List α) : (given l.length (fun i => f (l.getD i d)) g).length = (l.filter f).length := by
  unfold given
  rw [List.length_map]
  have key : ∀ n, n ≤ l.length → ((List.range n).filter fun i => f (l.getD i d)).length = ((l.take n).filter f).length := by
    intro n
    induction n with
    | zero => intro _; rfl
    | succ n ih =>
      intro hn
      have hlt : n < l.length := hn
      have e : l.take (n + 1) = l.take n ++ [l.getD n d] := by
        rw [List.take_add_one, List.getElem?_eq_getElem hlt, List.getD_eq_getElem?_getD, List.getElem?_eq_getElem hlt]
        rfl
      rw [e, List.range_succ, List.filter_append, List.filter_append, List.length_append, List.length_append, ih (Nat.le_of_lt hlt)]
      congr 1
      cases hf : f (l.getD n d) <;> simp only [List.filter_cons, List.filter_nil, hf, if_true, Bool.false_eq_true, if_false, List.length_cons, List.length_nil]
  rw [key l.length (Nat.le_refl _), List.take_length]
end
theorem inV_vos (l : List (Option Nat)) : inV .non (vos l) = decide (none ∈ l) := by
  unfold inV vos
  rw [List.any_map, Bool.eq_iff_iff, List.any_eq_true, decide_eq_true_eq]
  constructor
  · rintro ⟨o, ho, e⟩
    cases o with
    | none => exact ho
    | some p => exact Bool.noConfusion e
  · intro h
    exact ⟨none, h, rfl⟩
theorem vos_flat (l : List (Option Nat)) : (vos l).all flatV = true := by
  unfold vos
  rw [List.all_map, List.all_eq_true]
  intro z _
  cases z <;> rfl
end Wm

/-! ### conditional stores, pairs -/
namespace Wm
open PySem PySem.Spec PyProof.Rows L2 Evl
section
variable {K : Kf} {σ : L2.St} {H H' : Hp} {ta tb te tl tx : TE} {t u : TT} {x y z v : V} {D : Ends} {tz : TS}
/-- if c: x = e, told by a property of what x holds behind it -/
theorem q_ifP {b : Bool} {i : Nat} (P : V → Prop) (h : EvT t σ H b) (h1 : b = true → ∃ v, Ev te σ H v ∧ P v) (h2 : b = false → ∃ v, σ.set i (some v) = σ ∧ P v) (k : ∀ v H1, P v → Ex H H1 → tz D (σ.set i (some v)) H1) : tSeq (tIfS t (tAsg te (gName i)) tNext) tz D σ H :=
  q_when h (fun hb H1 e1 => by
    obtain ⟨v, hv, pv⟩ := h1 hb
    exact s_asg (D := { D with nx := tz D }) (hv.mono e1) fun H2 e2 => k v H2 pv (e1.trans e2)) (fun hb H1 e1 => by
    obtain ⟨v, hv, pv⟩ := h2 hb
    have g := k v H1 pv e1
    rw [hv] at g
    exact g)
/-- a, b = a pair that is made on the way -/
def EvPair (te : TE) (σ : L2.St) (H : Hp) (P : V → V → Hp → Prop) : Prop := ∀ H1, Ex H H1 → ∀ Q : VK, (∀ p x y H2, Ex H1 H2 → H2 p = some (.tup [x, y]) → P x y H2 → Q (.ref p) H2) → te σ H1 Q
theorem q_asg2 {i j : Nat} {P : V → V → Hp → Prop} (h : EvPair te σ H P) (k : ∀ x y H1, Ex H H1 → P x y H1 → tz D ((σ.set i (some x)).set j (some y)) H1) : tSeq (tAsg te (gTup K 2 (gCons (gName i) (gCons (gName j) gNil)))) tz D σ H :=
  h H (Ex.refl H) _ fun p x y H1 e hp hP => ⟨p, [x, y], rfl, st_of hp, rfl, x, [y], rfl, y, [], rfl, rfl, k x y H1 e hP⟩
theorem ep_call {sp : Sp} {E : XK} {ta : TA} {vs : List V} {P : V → V → Hp → Prop} (h : EvA ta σ H vs) (hs : ∀ H1, Ex H H1 → ∀ Q : VK, (∀ p x y H2, Ex H1 H2 → H2 p = some (.tup [x, y]) → P x y H2 → Q (.ref p) H2) → ∀ E : XK, sp vs H1 Q E) : EvPair (tCall sp [] E ta) σ H P := fun H1 e Q q =>
  h H1 e _ fun H2 e2 => by
    rw [List.append_nil]
    exact hs H2 (e.trans e2) Q (fun p x y H3 e3 hp hP => q p x y H3 (e2.trans e3) hp hP) E
theorem mod_nat (c : Int) {m : Int} {n : Nat} (h : 0 < m) (hm : m ≤ n) : ∃ w : Nat, c % m = (w : Int) ∧ w < n := by
  have h1 := Int.emod_nonneg c (show m ≠ 0 by omega)
  have h2 := Int.emod_lt_of_pos c h
  exact ⟨(c % m).toNat, by omega, by omega⟩
theorem tuple_ret {xs : List V} {Q : VK} (h : EvU te σ H xs) (k : ∀ p H1, H p = none → Ex H H1 → H1 p = some (.tup xs) → Q (.ref p) H1) : tRet te { nx := D.nx, rt := Q } σ H := s_retU (D := { nx := D.nx, rt := Q }) h k
end
end Wm

/-! ### for x in reversed(range(n)); counts by comprehensions -/
namespace Wm
open PySem PySem.Spec PyProof.Rows L2 Evl
section
variable {K : Kf} {σ : L2.St} {H H' : Hp} {ta tb te tl tx : TE} {t u : TT} {x y z v : V} {D : Ends} {tz tu : TS}
theorem s_forRev {j n : Nat} (h : Ev te σ H (.int (n : Int))) (hn : n ≤ 100000) (Pv : Nat → L2.St → Hp → Prop) (h0 : ∀ H1, Ex H H1 → Pv 0 σ H1)
    (hs : ∀ (i p : Nat) σ' H', i + p + 1 = n → Pv i σ' H' → tu { D with nx := Pv (i + 1), ct := Pv (i + 1), bk := D.nx } (σ'.set j (some (.int (p : Int)))) H') (hd : ∀ σ' H', Pv n σ' H' → D.nx σ' H') : tFor (iRevR (tRg1 te)) (gName j) tu D σ H :=
  h H (Ex.refl H) _ fun H1 e => ⟨(n : Int), rfl, by decide, by decide, by omega, by omega, by
    have en : ((n : Int) - 0).toNat = n := by omega
    rw [en]
    exact for_rangeC Pv (h0 H1 e) (fun i σ' H' hi p => by
      have e0 : (0 : Int) + ((n : Nat) : Int) - 1 + (i : Nat) * (-1) = ((n - 1 - i : Nat) : Int) := by omega
      rw [e0]
      exact hs i (n - 1 - i) σ' H' (by omega) p) hd⟩
theorem q_forRev {j n : Nat} (h : Ev te σ H (.int (n : Int))) (hn : n ≤ 100000) (Pv : Nat → L2.St → Hp → Prop) (h0 : ∀ H1, Ex H H1 → Pv 0 σ H1)
    (hs : ∀ (i p : Nat) σ' H', i + p + 1 = n → Pv i σ' H' → tu { D with nx := Pv (i + 1), ct := Pv (i + 1), bk := tz D } (σ'.set j (some (.int (p : Int)))) H') (hd : ∀ σ' H', Pv n σ' H' → tz D σ' H') : tSeq (tFor (iRevR (tRg1 te)) (gName j) tu) tz D σ H :=
  s_forRev (D := { D with nx := tz D }) h hn Pv h0 hs hd
/-- len([w for w in ws if test]) -/
theorem ev_count {a : Addr} {ws : List Nat} {j : Nat} {vs : List Nat} (p : Nat → Bool) (h : Ev tl σ H (.ref a)) (hx : SqL K H a (vn ws)) (hz : ws.length ≤ 40000) (hw : ∀ x, wipe ((wipe σ vs).set j (some x)) vs = wipe σ vs)
    (hj : ∀ x : V, ((wipe σ vs).set j (some x))[j]? = some (some x)) (ht : ∀ (w : Nat) H1, Ex H H1 → w ∈ ws → EvT t ((wipe σ vs).set j (some (.int (w : Int)))) H1 (p w)) :
    Ev (tCB (rLenS K) (tCons (tLc (iList K tl) (gName j) t (tVar j) vs) tNil)) σ H (.int ((ws.countP p : Nat) : Int)) := by
  have q : V → Bool := fun v => match v with
    | .int i => p i.toNat
    | _ => false
  refine ev_is (ev_lenN (el_lcX (K := K) (xs := vn ws) (fun v => match v with | .int i => p i.toNat | _ => false) id h hx (by rw [vn_len]; exact hz) hw (fun x H1 e hm => ?_) (fun x H1 e hm _ => ev_var (hj x)))) ?_
  · unfold vn at hm
    obtain ⟨w, hw2, rfl⟩ := List.mem_map.mp hm
    exact ht w H1 e hw2
  · rw [List.length_map]
    refine congrArg (fun n : Nat => V.int (n : Int)) ?_
    unfold vn
    rw [List.filter_map, List.length_map, List.countP_eq_length_filter]
    rfl
end
end Wm

/-! ### lists of which only a property is told; sorted pairs -/
namespace Wm
open PySem PySem.Spec PyProof.Rows L2 Evl
def EvLP (te : TE) (σ : L2.St) (H : Hp) (P : List V → Prop) : Prop := ∀ H1, Ex H H1 → ∀ Q : VK, (∀ p xs H2, H1 p = none → Ex H1 H2 → H2 p = some (.lst xs) → P xs → Q (.ref p) H2) → te σ H1 Q
section
variable {X : Cx}
theorem cr_max2 (hc : X.calm = true) : CallR X (.builtin "max") rMax2 := call_max2 hc
def rMin2 : List V → Hp → VK → Prop := fun xs H Q => ∃ i j, xs = [.int i, .int j] ∧ Q (.int (if j < i then j else i)) H
theorem cr_min2 (hc : X.calm = true) : CallR X (.builtin "min") rMin2 := call_min2 hc
end
section
variable {K : Kf} {σ : L2.St} {H H' : Hp} {ta tb te tl tx : TE} {t u : TT} {x y z v : V} {D : Ends} {tz tu : TS}
theorem ev_min2 {i j : Int} (ha : Ev ta σ H (.int i)) (hb : Ev tb σ H (.int j)) : Ev (tCB rMin2 (tCons ta (tCons tb tNil))) σ H (.int (if j < i then j else i)) := fun H1 e Q q =>
  ha H1 e _ fun H2 e2 => hb H2 (e.trans e2) _ fun H3 e3 => ⟨i, j, rfl, q H3 (e2.trans e3)⟩
theorem s_asgLP {i : Nat} {P : List V → Prop} (h : EvLP te σ H P) (k : ∀ p xs H1, H p = none → Ex H H1 → H1 p = some (.lst xs) → P xs → D.nx (σ.set i (some (.ref p))) H1) : tAsg te (gName i) D σ H := h H (Ex.refl H) _ k
theorem q_asgLP {i : Nat} {P : List V → Prop} (h : EvLP te σ H P) (k : ∀ p xs H1, H p = none → Ex H H1 → H1 p = some (.lst xs) → P xs → tz D (σ.set i (some (.ref p))) H1) : tSeq (tAsg te (gName i)) tz D σ H := s_asgLP (D := { D with nx := tz D }) h k
theorem s_retLP {P : List V → Prop} (h : EvLP te σ H P) (k : ∀ p xs H1, H p = none → Ex H H1 → H1 p = some (.lst xs) → P xs → D.rt (.ref p) H1) : tRet te D σ H := h H (Ex.refl H) _ k
theorem lp_of {P : List V → Prop} {xs : List V} (h : EvL te σ H xs) (hp : P xs) : EvLP te σ H P := fun H1 e Q q => h H1 e Q fun p H2 np e2 h2 => q p xs H2 np e2 h2 hp
theorem lp_imp {P P' : List V → Prop} (h : EvLP te σ H P) (hp : ∀ xs, P xs → P' xs) : EvLP te σ H P' := fun H1 e Q q => h H1 e Q fun p xs H2 np e2 h2 h3 => q p xs H2 np e2 h2 (hp xs h3)
theorem lp_call {sp : Sp} {E : XK} {ta : TA} {vs : List V} {P : List V → Prop} (h : EvA ta σ H vs) (hs : ∀ H1, Ex H H1 → ∀ Q : VK, (∀ xs, P xs → RetL xs H1 Q) → ∀ E : XK, sp vs H1 Q E) : EvLP (tCall sp [] E ta) σ H P := fun H1 e Q q =>
  h H1 e _ fun H2 e2 => by
    rw [List.append_nil]
    exact hs H2 (e.trans e2) Q (fun xs hP p H3 hp e3 h3 => q p xs H3 (fresh_back e2 hp) (e2.trans e3) h3 hP) E
/-- a comprehension over such a list -/
theorem lp_lc {vs : List Nat} {j : Nat} {P : List V → Prop} (p : V → Bool) (g : V → V) (h : EvLP tl σ H P) (hz : ∀ xs, P xs → xs.length ≤ 40000) (hw : ∀ x, wipe ((wipe σ vs).set j (some x)) vs = wipe σ vs)
    (ht : ∀ xs x H1, P xs → Ex H H1 → x ∈ xs → EvT t ((wipe σ vs).set j (some x)) H1 (p x)) (he : ∀ xs x H1, P xs → Ex H H1 → x ∈ xs → p x = true → Ev te ((wipe σ vs).set j (some x)) H1 (g x)) :
    EvLP (tLc (iList K tl) (gName j) t te vs) σ H (fun ys => ∃ xs, P xs ∧ ys = (xs.filter p).map g) := fun H0 e Q q => h H0 e _ fun a xs H1 ha e1 hx hP => ⟨a, rfl, ⟨xs, sq_of hx⟩, fun Dl hD =>
  lc_list (xs := xs) (Cw H1 (fun i => p (xs.getD i .non)) (fun i => g (xs.getD i .non)) Dl) ⟨hD, Ex.new hD, upd_same⟩ (fun i H' _ pp => sq_of (pp.2.1 a _ hx)) (fun i x H' hi pp => ⟨hw x, cw_turn pp (by have := (List.getElem?_eq_some_iff.mp hi).1; have := hz xs hP; omega)
      (by rw [getD_of hi]; exact ht xs x H1 hP (e.trans e1) (List.mem_of_getElem? hi)) (fun hf => by rw [getD_of hi] at hf ⊢; exact he xs x H1 hP (e.trans e1) (List.mem_of_getElem? hi) hf)⟩)
    (fun H' pp => q Dl _ H' (fresh_back e1 pp.1) (e1.trans pp.2.1) pp.2.2 ⟨xs, hP, given_list xs⟩)⟩
/-- what stands at a reference to a pair of ints -/
def pairAt (H : Hp) : V → Int × Int
  | .ref p => match H p with
    | some (.tup [.int a, .int b]) => (a, b)
    | _ => (0, 0)
  | _ => (0, 0)
theorem pairAt_is {H : Hp} {p : Addr} {a b : Int} (h : H p = some (.tup [.int a, .int b])) : pairAt H (.ref p) = (a, b) := by
  simp only [pairAt, h]
/-- sorted([(f i, i) for ..]): references to the pairs, in some order -/
theorem sorted_pairs {ta : TE} {n : Nat} {f : Nat → Int} (h : EvM HO.tup ta σ H ((List.range n).map fun i => [V.int (f i), V.int (i : Int)])) :
    ∀ H1, Ex H H1 → ∀ Q : VK, (∀ p zs H2, H1 p = none → Ex H1 H2 → H2 p = some (.lst zs) → (∀ x ∈ zs, ∃ q i, x = .ref q ∧ i < n ∧ H2 q = some (.tup [.int (f i), .int (i : Int)])) → (zs.map fun x => (pairAt H2 x).2.toNat).Perm (List.range n) → Q (.ref p) H2) → tCB (rSortedPO K) (tCons ta tNil) σ H1 Q := fun H1 e Q q =>
  h H1 e _ fun p ps H2 np e2 hp hm => by
    have hmem : ∀ x ∈ ps.map V.ref, ∃ q i, x = .ref q ∧ i < n ∧ H2 q = some (.tup [.int (f i), .int (i : Int)]) := by
      intro x hx
      obtain ⟨q, hq, rfl⟩ := List.mem_map.mp hx
      obtain ⟨i, hi⟩ := List.mem_iff_getElem?.mp hq
      obtain ⟨r, hr, h3⟩ := hm.get hi
      rw [List.getElem?_map] at hr
      by_cases hin : i < n
      · rw [List.getElem?_range hin] at hr
        cases hr
        exact ⟨q, i, rfl, hin, h3⟩
      · rw [List.getElem?_eq_none (by rw [List.length_range]; omega)] at hr
        cases hr
    refine ⟨p, ps.map V.ref, pairAt H2, rfl, sq_of hp, fun x hx => ?_, fun ys l hs hb hl => ?_⟩
    · obtain ⟨q, i, rfl, hin, h3⟩ := hmem x hx
      exact ⟨q, rfl, by rw [pairAt_is h3]; exact h3⟩
    · refine q l ys _ (fresh_back e2 hl) (e2.trans (Ex.new hl)) upd_same (fun x hx => ?_) ?_
      · obtain ⟨q, i, rfl, hin, h3⟩ := hmem x (hb.perm.mem_iff.mp hx)
        exact ⟨q, i, rfl, hin, Ex.new hl _ _ h3⟩
      · have h1 : (ys.map fun x => (pairAt (upd H2 l (.lst ys)) x).2.toNat).Perm ((ps.map V.ref).map fun x => (pairAt (upd H2 l (.lst ys)) x).2.toNat) := hb.perm.map _
        have h2 : ((ps.map V.ref).map fun x => (pairAt (upd H2 l (.lst ys)) x).2.toNat) = List.range n := by
          refine List.ext_getElem? fun i => ?_
          rw [List.getElem?_map, List.getElem?_map]
          cases hpi : ps[i]? with
          | none =>
            have hl := hm.len
            rw [List.length_map, List.length_range] at hl
            rw [List.getElem?_eq_none_iff] at hpi
            rw [List.getElem?_eq_none (by rw [List.length_range]; omega)]
            rfl
          | some q =>
            obtain ⟨r, hr, h3⟩ := hm.get hpi
            rw [List.getElem?_map] at hr
            by_cases hin : i < n
            · rw [List.getElem?_range hin] at hr ⊢
              cases hr
              show some ((pairAt (upd H2 l (.lst ys)) (.ref q)).2.toNat) = some i
              rw [pairAt_is (Ex.new hl _ _ h3), Int.toNat_natCast]
            · rw [List.getElem?_eq_none (by rw [List.length_range]; omega)] at hr
              cases hr
        rw [h2] at h1
        exact h1
/-- x = e, of which P is told -/
theorem q_asgG {i : Nat} {P : V → Hp → Prop} (h : ∀ Q : VK, (∀ v H2, P v H2 → Q v H2) → te σ H Q) (k : ∀ v H2, P v H2 → tz D (σ.set i (some v)) H2) : tSeq (tAsg te (gName i)) tz D σ H := h _ k
theorem q_sorted_pairs {i n : Nat} {f : Nat → Int} {ta : TE} (h : EvM HO.tup ta σ H ((List.range n).map fun i => [V.int (f i), V.int (i : Int)]))
    (k : ∀ p zs H2, H p = none → Ex H H2 → H2 p = some (.lst zs) → (∀ x ∈ zs, ∃ q i, x = .ref q ∧ i < n ∧ H2 q = some (.tup [.int (f i), .int (i : Int)])) → (zs.map fun x => (pairAt H2 x).2.toNat).Perm (List.range n) → tz D (σ.set i (some (.ref p))) H2) :
    tSeq (tAsg (tCB (rSortedPO K) (tCons ta tNil)) (gName i)) tz D σ H := sorted_pairs h H (Ex.refl H) _ k
/-- [e for x, y in pairs] -/
theorem el_lcPairs {a : Addr} {zs : List V} {i j : Nat} {vs : List Nat} (g : V → V) (h : Ev tl σ H (.ref a)) (hx : SqL K H a zs) (hz : zs.length ≤ 40000) (hp : ∀ x ∈ zs, ∃ q u v, x = .ref q ∧ H q = some (.tup [.int u, .int v]))
    (hw : ∀ x y, wipe (((wipe σ vs).set i (some x)).set j (some y)) vs = wipe σ vs) (he : ∀ x H1, Ex H H1 → x ∈ zs → Ev te (((wipe σ vs).set i (some (.int (pairAt H x).1))).set j (some (.int (pairAt H x).2))) H1 (g x)) :
    EvL (tLc (iList K tl) (gTup K 2 (gCons (gName i) (gCons (gName j) gNil))) tYes te vs) σ H (zs.map g) := fun H0 e Q q => h H0 e _ fun H1 e1 => ⟨a, rfl, ⟨zs, ex_l (e.trans e1) hx⟩, fun Dl hD =>
  lc_list (xs := zs) (Cw H1 (fun _ => true) (fun i => g (zs.getD i .non)) Dl) ⟨hD, Ex.new hD, upd_same⟩ (fun i H' _ pp => ex_l ((e.trans e1).trans pp.2.1) hx) (fun n x H' hi pp => by
      have hm := List.mem_of_getElem? hi
      obtain ⟨q2, u, v, ex2, h2⟩ := hp x hm
      have hn := (List.getElem?_eq_some_iff.mp hi).1
      have eP : pairAt H x = (u, v) := by rw [ex2]; exact pairAt_is h2
      refine ⟨q2, _, ex2, st_of (((e.trans e1).trans pp.2.1) _ _ h2), rfl, .int u, [.int v], rfl, .int v, [], rfl, rfl, hw _ _, ?_⟩
      refine cw_turn pp (by omega) et_yes fun _ => ?_
      have q3 := he x H1 (e.trans e1) hm
      rw [eP] at q3
      rw [getD_of hi]
      exact q3)
    (fun H' pp => by
      have e3 : given zs.length (fun _ => true) (fun i => g (zs.getD i .non)) = zs.map g := by
        have := given_list (p := fun _ => true) (g := g) zs
        rw [this, List.filter_eq_self.mpr fun _ _ => rfl]
      have h3 := pp.2.2
      rw [e3] at h3
      exact q Dl H' (fresh_back e1 pp.1) (e1.trans pp.2.1) h3)⟩
end
end Wm

/-! ### exceptions: what is refused, the word that a suite tells of it -/
namespace Wm
open PySem PySem.Spec PyProof.Rows L2 Evl
/-- an own class of exceptions, as raise asks it -/
structure Exc (K : Kf) (mg : Mg) (c : Str) : Prop where
  g : mg c = some (.ref (He.ga K c))
  x : PySem.W.excIn K (He.ga K c) He.veBase "ValueError.__new__" = true
  k : PySem.W.keepIn K (.ref (He.ga K c)) = true
  b : PySem.W.subIn K (.ref (He.ga K c)) (.type "BaseException") = some true
  t : PySem.W.typeIn K (.ref (He.ga K c)) = some (.type "type")
theorem exc_of {K : Kf} {mg : Mg} {c : Str} (g : mg c = some (.ref (He.ga K c))) (h : (He.Fa.exc c).ok K = true) : Exc K mg c := by
  obtain ⟨h1, h2, h3, h4⟩ := He.exc_ok h
  exact ⟨g, h1, h2, h3, h4⟩
def classAt : Nat → Str
  | 0 => "NoQuay"
  | 1 => "NoRow"
  | 2 => "NoOutcome"
  | 3 => "NoTree"
  | 4 => "NoRank"
  | _ => "NoNote"
def wordAt : Nat → Str
  | 0 => "quay"
  | 1 => "row"
  | 2 => "outcome"
  | 3 => "tree"
  | 4 => "rank"
  | _ => "note"
/-- the class at D is the i-th one, and no other of them -/
structure IsWord (K : Kf) (D : Addr) (i : Nat) : Prop where
  c : ExcC K D
  kit : ∀ j, j < 6 → PySem.W.kitOne K (.ref D) (.ref (He.ga K (classAt j))) = some (decide (j = i))
  ve : PySem.W.kitOne K (.ref D) (.type "ValueError") = some true
  moor : PySem.W.exmOne K (.ref D) (.ref (He.ga K "MoorError")) = some true
def excCB (K : Kf) (D : Addr) : Bool :=
  decide (PySem.W.findIn K (.ref D) "__getattribute__" = some (some (.builtin "BaseException.__getattribute__"))) && (decide (PySem.W.findIn K (.ref D) "__getattr__" = some none) && (decide (PySem.W.subIn K (.ref D) (.type "BaseException") = some true) && (PySem.W.hasDictIn K D && (decide (PySem.W.findIn K (.ref D) "__class__" = some (some (.builtin "object.__class__"))) && (decide (PySem.W.specialIn K (.builtin "object.__class__") "__get__" = some (some (.builtin "getset_descriptor.__get__"))) && (decide (PySem.W.takesIn K (.builtin "object.__class__") = some true) && decide (PySem.W.mroIn K D (.type "object") = some true)))))))
theorem excCB_ok {K : Kf} {D : Addr} (h : excCB K D = true) : ExcC K D := by
  obtain ⟨h1, h⟩ := He.ba h
  obtain ⟨h2, h⟩ := He.ba h
  obtain ⟨h3, h⟩ := He.ba h
  obtain ⟨h4, h⟩ := He.ba h
  obtain ⟨h5, h⟩ := He.ba h
  obtain ⟨h6, h⟩ := He.ba h
  obtain ⟨h7, h8⟩ := He.ba h
  exact ⟨of_decide_eq_true h1, of_decide_eq_true h2, of_decide_eq_true h3, h4, of_decide_eq_true h5, of_decide_eq_true h6, of_decide_eq_true h7, of_decide_eq_true h8⟩
def isWordB (K : Kf) (i : Nat) : Bool :=
  excCB K (He.ga K (classAt i)) && ((List.range 6).all (fun j => decide (PySem.W.kitOne K (.ref (He.ga K (classAt i))) (.ref (He.ga K (classAt j))) = some (decide (j = i)))) && (decide (PySem.W.kitOne K (.ref (He.ga K (classAt i))) (.type "ValueError") = some true) && decide (PySem.W.exmOne K (.ref (He.ga K (classAt i))) (.ref (He.ga K "MoorError")) = some true)))
theorem isWord_ok {K : Kf} {i : Nat} (h : isWordB K i = true) : IsWord K (He.ga K (classAt i)) i := by
  obtain ⟨h1, h⟩ := He.ba h
  obtain ⟨h2, h⟩ := He.ba h
  obtain ⟨h3, h4⟩ := He.ba h
  exact ⟨excCB_ok h1, fun j hj => of_decide_eq_true (List.all_eq_true.mp h2 j (List.mem_range.mpr hj)), of_decide_eq_true h3, of_decide_eq_true h4⟩
def wordsB (K : Kf) : Bool := (List.range 6).all (fun i => isWordB K i && (He.Fa.exc (classAt i)).ok K)
structure Words (K : Kf) : Prop where
  w : ∀ i, i < 6 → IsWord K (He.ga K (classAt i)) i
  x : ∀ i, i < 6 → (He.Fa.exc (classAt i)).ok K = true
theorem words_ok {K : Kf} (h : wordsB K = true) : Words K :=
  ⟨fun i hi => isWord_ok (He.ba (List.all_eq_true.mp h i (List.mem_range.mpr hi))).1, fun i hi => (He.ba (List.all_eq_true.mp h i (List.mem_range.mpr hi))).2⟩
/-! a def that is called while the exception p is handled -/
structure FnP (P : Program) (w : World) (K : Kf) (mg : Mg) (base : Heap) (k : Nat) (f : Addr) (fd : FuncData) (ps : List Str) (p : Addr × Obj) (sp : Sp) : Prop where
  len : ∀ vs H Q E, sp vs H Q E → vs.length = ps.length
  run : ∀ (A : Around) (outer : List Env) (s : Shared) (H : Hp) (args : Args) (us : List Value) (vs : List V) (Q : VK) (E : XK), L2H.RoomH k A → L2H.PinOk outer H s p → Env0 P w K mg base A outer s H → BindsTo s fd args (ps.zip us) → Vals vs us → sp vs H Q E → codeAny (model P w) A (.call (.ref f) args) (CR CX0 outer P w H s Q E) s
structure OwnP (P : Program) (w : World) (K : Kf) (mg : Mg) (base : Heap) (k : Nat) (x : Str) (ps : List Str) (sp : Addr × Obj → Sp) : Prop where
  ex : ∃ (f : Addr) (fd : FuncData), (∀ p, FnP P w K mg base k f fd ps p (sp p)) ∧ mg x = some (.ref f) ∧ PySem.W.keepIn K (.ref f) = true ∧ Binds K fd ps []
section
variable {P : Program} {w : World} {K : Kf} {mg : Mg} {base : Heap}
theorem pinned_of {k : Nat} {f : Addr} {nm ql : Str} {prm : Arguments} {bd : List Stmt} {sc : Scope} {u1 u2 u3 u4 cv u5 o1 : Value} {n1 o2 : Option Addr} {sl : Array (Option Value)} {N ps : List Str} {p : Addr × Obj} {sp : Sp}
    (lk : K.lookup f = some ⟨o1, o2, .func (PySem.W.fnOf nm ql prm bd sc u1 u2 u3 u4 n1 cv u5), sl⟩) (hc : PySem.W.codeIn K cv ql = true) (S : FnScope N ps sc) (len : ∀ vs H Q E, sp vs H Q E → vs.length = ps.length)
    (body : ∀ (A : Around) (outer : List Env) (s : Shared) (H : Hp) (vs : List V) (Q : VK) (E : XK), L2H.RoomH k (A.deeper (envOfC ql sc s.heap.objs.size f cv)) → sp vs H Q E → ∃ t, PSs (L2H.cxH CX0 P w K mg base N ql sc f cv A outer s H E p) bd t ∧ t { nx := fun _ H' => Q .non H', rt := Q } (start N vs) H) :
    FnP P w K mg base (k + 1) f (PySem.W.fnOf nm ql prm bd sc u1 u2 u3 u4 n1 cv u5) ps p sp := by
  constructor
  · exact len
  intro A outer s H args us vs Q E room pin e0 bnd vals h
  have inH : K.In s.heap := e0.mod.kin.keeps fun b o z => (e0.bs b o z).1
  have lims : s.heap.NoLimit := e0.mod.nolimit.keeps fun b o z => (e0.bs b o z).1
  have kinds : ∀ y ∈ ps.zip us, sc.names.lookup y.1 = some .local ∨ (sc.names.lookup y.1 = some .cell ∧ ((cellsFrom (s.heap.objs.size + 1) sc.names []).lookup y.1).isSome = true) := by
    rintro ⟨n, v⟩ hy
    rcases S.par n (List.of_mem_zip hy).1 with q | q
    · exact Or.inl q
    · exact Or.inr ⟨q, PySem.W.cellsFrom_some _ _ _ (Or.inl q)⟩
  refine codeAny_call_function room.depth (inH _ _ lk) rfl S.co S.gen rfl (PySem.W.codeRec_of inH hc) (bnd _ _ _ _ (wpAny_newFunctionEnv_cells S.kind kinds fun env he s1 x => ?_))
  cases he
  refine ⟨lims.keeps x.toInCall.keep, codeAny_func ?_⟩
  obtain ⟨t, hd, hq⟩ := body A outer s H vs Q E (room.deeper _) h
  have I := L2H.inv_startH (CX := CX0) (P := P) (w := w) (mg := mg) (base := base) (E := E) (f := f) (cd := cv) S pin e0 (len _ _ _ _ h) vals x
  refine wpAny_mono (hd.run [] s1 _ H _ I hq) (fun fl s2 g => ?_) (fun _ _ g => g)
  cases fl with
  | ret u =>
    obtain ⟨v, σ2, H2, J, r2, q2⟩ := g
    exact ⟨v, H2, J.os, J.bare, J.base, J.hok, r2, q2⟩
  | next =>
    obtain ⟨σ2, H2, J, q2⟩ := g
    exact ⟨.non, H2, J.os, J.bare, J.base, J.hok, rfl, q2⟩
  | brk =>
    obtain ⟨_, _, _, q2⟩ := g
    exact q2.elim
  | cont =>
    obtain ⟨_, _, _, q2⟩ := g
    exact q2.elim
theorem Def.pinned {x : Str} {st : Stmt} {N ps : List Str} {k : Nat} {sp : Addr × Obj → Sp} (D : Def K mg x st) (S : FnScope N ps (defScope st)) (b : BindsWell x st ps) (len : ∀ p vs H Q E, sp p vs H Q E → vs.length = ps.length)
    (body : ∀ (p : Addr × Obj) (f : Addr) (cdv : Value) (A : Around) (outer : List Env) (s : Shared) (H : Hp) (vs : List V) (Q : VK) (E : XK), L2H.RoomH k (A.deeper (envOfC x (defScope st) s.heap.objs.size f cdv)) → sp p vs H Q E →
      ∃ t, PSs (L2H.cxH CX0 P w K mg base N x (defScope st) f cdv A outer s H E p) (defBody st) t ∧ t { nx := fun _ H' => Q .non H', rt := Q } (start N vs) H) : OwnP P w K mg base (k + 1) x ps sp := by
  obtain ⟨f, fd, F, m⟩ := D.ex
  have bn := F.bindsN b
  have kp := F.kp
  obtain ⟨oc, od, dV, kV, doc, pm, an, cdv, ct, osl, rfl, lk, hcd, _, _⟩ := F.ex
  exact ⟨f, _, fun p => pinned_of lk hcd S (len p) fun A outer s H vs Q E hr h => body p f cdv A outer s H vs Q E hr h, m, kp, bn⟩
end
section
variable {X : Cx}
theorem pe_imp {e : Expr} {te te' : TE} (h : PE X e te) (k : ∀ σ H Q, te' σ H Q → te σ H Q) : PE X e te' := ⟨fun pins s σ H Q I g => h.run pins s σ H Q I (k σ H Q g)⟩
/-- a call while p is handled -/
theorem pe_callP {k : Nat} {ps : List Str} {sp : Addr × Obj → Sp} {x : Str} {q pos : Pos} {e : Expr} {es : List Expr} {t : TA} {p : Addr × Obj} (hp : p ∈ X.pn) (O : OwnP X.prog X.w X.K X.mg X.base k x ps sp) (hr : L2H.RoomH k X.A) (ha : PA X (e :: es) t) (hg : Gl X x := by rfl) (hdb : (x == ("__debug__" : Str)) = false := by decide) (he : starEach (e :: es) X.env = (false, eval e X.env) :: starEach es X.env := by rfl) (hpl : (backTo pos (starEach es X.env)).any (·.1) = false := by rfl) :
    PE X (.Call (.Name x q) (e :: es) [] pos) (fun σ H Q => t σ H fun vs H1 => sp p vs H1 Q E0) := by
  obtain ⟨f, fd, G, m, kp, b⟩ := O.ex
  constructor
  intro pins s σ H Q I h
  refine wpAny_Call_Name_kw (ld_glob I hg m ?_ hdb)
  refine PySem.W.callWith_K (h₀ := X.base) I.ok.mod.kin kp (thn (ha.run pos pins s σ H _ I h) fun us s1 z => ?_) he hpl
  obtain ⟨vs, H1, I1, r, g⟩ := z
  refine ⟨I1.kIn, ?_⟩
  have hl : us.length = ps.length := by
    rw [← r.length]
    exact (G p).len _ _ _ _ g
  have bb := b s1 us I1.kIn (by rw [List.append_nil]; exact hl)
  rw [List.append_nil] at bb
  have P1 := I1.pin p (List.mem_append_left _ hp)
  have pin : L2H.PinOk X.stack H1 s1 p := ⟨P1.1, P1.2.1, fun hm => (List.mem_cons.mp (I1.stkSub p.1 hm)).elim P1.2.2.1 P1.2.2.2.1, P1.2.2.2.2⟩
  refine wpAny_call (codeAny_mono ((G p).run X.A X.stack s1 H1 ⟨us, []⟩ us vs Q E0 hr pin I1.env0 bb r g) fun rs s2 hq => ?_)
  cases rs with
  | error e => exact hq.elim
  | ok fl =>
    cases fl with
    | ret u => exact I1.after hq
    | next => exact hq.elim
    | brk => exact hq.elim
    | cont => exact hq.elim
/-- isinstance(e, c), e the exception that is handled -/
theorem call_isP {p : Addr × Obj} {D : Addr} (hp : p ∈ X.pn) (C : ExcC X.K D) (hz : Zc (.ref D) none p.2) (hf : ∃ vs, p.2.data = .fields vs) : CallR X (.builtin "isinstance") (rIsE X.K D p.1) := by
  intro pins s σ H xs us Q I r h
  obtain ⟨c, cv, b, rfl, hcv, hk, q⟩ := h
  cases r with
  | cons rx rr =>
    cases rr with
    | cons rt rr2 =>
      cases rr2
      cases rx
      have ec := hcv _ rt
      subst ec
      have hget := (I.pin p (List.mem_append_left _ hp)).1
      have J : PySem.W.InstAt s.heap p.1 p.2 D none := by
        obtain ⟨vs, hv⟩ := hf
        obtain ⟨pa, po⟩ := p
        obtain ⟨oc, od, dt, sl⟩ := po
        obtain ⟨h1, h2⟩ := hz
        dsimp only at h1 h2 hv hget
        subst h1 h2 hv
        exact ⟨hget, rfl, rfl, trivial⟩
      exact PySem.W.kia_one (PySem.W.handS_kitx_exc C.hg C.hk C.hs C.hd C.ha C.hn C.ht C.hm) I.kIn J hk (fun z => nomatch z) fun tk => ⟨.bl b, H, I.kept (t' := tk) fun _ _ z => z, rfl, q⟩
/-- xs.count(b), bools -/
def rCntB (K : Kf) : V → List V → Hp → VK → Prop := fun x xs H Q => ∃ (p : Addr) (bs : List Bool) (k : Bool), x = .ref p ∧ xs = [.bl k] ∧ SqL K H p (bs.map V.bl) ∧ Q (.int ((bs.count k : Nat) : Int)) H
theorem bools_of : ∀ {bs : List Bool} {us : List Value}, Vals (bs.map V.bl) us → us = bs.map Value.bool
  | [], _, .nil => rfl
  | b :: bs, _, .cons r t => by
    cases r
    rw [bools_of t]
    rfl
theorem mt_cntB : MtR X "list.count" (rCntB X.K) := by
  intro pins s σ H x xs v us Q I rx rxs h
  obtain ⟨p, bs, k, rfl, rfl, hs, q⟩ := h
  cases rx
  obtain ⟨u, rfl, ru⟩ := rxs.one
  cases ru
  obtain ⟨its, rv, pl, hlen⟩ := I.list hs
  obtain ⟨⟨cls, dd, data, sl⟩, n, ho, hc, hdn, hd⟩ := pl
  simp only at hc hd
  subst hc hd
  have hb := bools_of rv
  subst hb
  refine call_meets PySem.F.slot_list_count ⟨_, ho, rfl⟩ PySem.F.entry_list_count (PySem.F.args_list_count_2 _ _) (SeqAt.list_countAt p (bs.map Value.bool).toArray n dd sl (.bool k) (fun y => decide (y = Value.bool k))) ⟨ho, fun y hy => ?_, ?_⟩
  · have hy2 : y ∈ bs.map Value.bool := by simpa using hy
    obtain ⟨c, _, rfl⟩ := List.mem_map.mp hy2
    have e : decide (Value.bool c = Value.bool k) = (c == k) := by cases c <;> cases k <;> rfl
    rw [e]
    exact SeqAt.EqAt.bool_bool c k
  · have e : (bs.map Value.bool).toArray.toList.countP (fun y => decide (y = Value.bool k)) = bs.count k := by
      rw [List.toList_toArray, List.countP_map, List.count]
      refine List.countP_congr fun c _ => ?_
      show decide (Value.bool c = Value.bool k) = true ↔ (c == k) = true
      cases c <;> cases k <;> decide
    refine ⟨.int ((bs.count k : Nat) : Int), H, I.tok _, ⟨s.toks, ?_⟩, q⟩
    show Value.int (((bs.map Value.bool).toArray.toList.countP (fun y => decide (y = Value.bool k)) : Nat) : Int) s.toks = Value.int ((bs.count k : Nat) : Int) s.toks
    rw [e]
/-- return word(e), in the suite of the exception a -/
def tWord (K : Kf) (a : Addr) (cls : Value) (d : Option Addr) (te : TE) : TE := fun σ H Q => te σ H fun v H1 => v = .ref a ∧ ∃ D i, cls = .ref D ∧ d = none ∧ i < 6 ∧ IsWord K D i ∧ ∀ H', Ex H1 H' → Q (.str (wordAt i)) H'
def sp_l_word_of (K : Kf) (p : Addr × Obj) : Sp := fun vs H Q _ => ∃ D i, vs = [.ref p.1] ∧ Zc (.ref D) none p.2 ∧ (∃ fs, p.2.data = .fields fs) ∧ i < 6 ∧ IsWord K D i ∧ RetV (.str (wordAt i)) H Q
theorem pe_word {k : Nat} {x : Str} {q pos : Pos} {e : Expr} {te : TE} {a : Addr} {oe : Obj} {cls : Value} {d : Option Addr} {pn : List (Addr × Obj)} (O : OwnP X.prog X.w X.K X.mg X.base k x ["e"] (sp_l_word_of X.K)) (hr : Room k X.A) (hz : Zc cls d oe) (hf : ∃ vs, oe.data = .fields vs) (ha : PE (X.suite a ((a, oe) :: pn)) e te) (hg : Gl (X.suite a ((a, oe) :: pn)) x := by rfl) (hdb : (x == ("__debug__" : Str)) = false := by decide) (he : starEach [e] X.env = (false, eval e X.env) :: starEach [] X.env := by rfl) (hpl : (backTo pos (starEach [] X.env)).any (·.1) = false := by rfl) :
    PE (X.suite a ((a, oe) :: pn)) (.Call (.Name x q) [e] [] pos) (tWord X.K a cls d te) := by
  refine pe_imp (pe_callP (X := X.suite a ((a, oe) :: pn)) (p := (a, oe)) List.mem_cons_self O ⟨hr.dp, hr.un⟩ (pa_cons ha pa_nil he) hg hdb he hpl) fun σ H Q g => ?_
  show te σ H fun v H1 => sp_l_word_of X.K (a, oe) [v] H1 Q E0
  have key : (fun v H1 => v = V.ref a ∧ ∃ D i, cls = .ref D ∧ d = none ∧ i < 6 ∧ IsWord X.K D i ∧ ∀ H', Ex H1 H' → Q (.str (wordAt i)) H') = fun v H1 => sp_l_word_of X.K (a, oe) [v] H1 Q E0 := by
    funext v H1
    refine propext ⟨?_, ?_⟩
    · rintro ⟨rfl, D, i, rfl, rfl, hi, hw, hq⟩
      exact ⟨D, i, rfl, hz, hf, hi, hw, hq⟩
    · rintro ⟨D, i, e1, ⟨z1, z2⟩, _, hi, hw, hq⟩
      refine ⟨(List.cons.inj e1).1, D, i, ?_, ?_, hi, hw, hq⟩
      · rw [← hz.1]
        exact z1
      · rw [← hz.2]
        exact z2
  rw [← key]
  exact g
/-- a call of an own def that may raise, in a try -/
theorem pe_ownS {CX : CXT} {k : Nat} {ps : List Str} {sp : Sp} {E : L2.St → XK} {x : Str} {p pos : Pos} {e : Expr} {es : List Expr} {t : TA} (F : Own X.prog X.w X.K X.mg X.base CX k x ps sp) (hr : Room k X.A) (hx : ∀ σ, PassesAt CX X σ (E σ)) (ha : PA X (e :: es) t) (hg : Gl X x := by rfl) (hdb : (x == ("__debug__" : Str)) = false := by decide)
    (he : starEach (e :: es) X.env = (false, eval e X.env) :: starEach es X.env := by rfl) (hpl : (backTo pos (starEach es X.env)).any (·.1) = false := by rfl) : PE X (.Call (.Name x p) (e :: es) [] pos) (tCallS sp E t) := by
  obtain ⟨f, fd, G, m, kp, b⟩ := F.ex
  exact pe_callS G hr hg m kp b hx ha hdb he hpl
end
/-! readings -/
section
variable {K : Kf} {σ : L2.St} {H H' : Hp} {ta tb te tl tx : TE} {t u : TT} {x y z v : V} {D : Ends} {tz tu : TS} {r : R2}
/-- whatever is wished of the value: it raises -/
def Rz (te : TE) (σ : L2.St) (H : Hp) : Prop := ∀ H1, Ex H H1 → ∀ Q : VK, te σ H1 Q
theorem Rz.mono (h : Rz te σ H) (e : Ex H H') : Rz te σ H' := fun H1 e1 Q => h H1 (e.trans e1) Q
theorem rz_call {sp : Sp} {E : XK} {ta : TA} {vs : List V} (h : EvA ta σ H vs) (hs : ∀ H1, Ex H H1 → ∀ Q : VK, sp vs H1 Q E) : Rz (tCall sp [] E ta) σ H := fun H1 e Q => h H1 e _ fun H2 e2 => by
  rw [List.append_nil]
  exact hs H2 (e.trans e2) Q
theorem rz_callN {sp : Sp} {E : XK} {xs : List V} (h : EvL ta σ H xs) (hs : ∀ p H1, Ex H H1 → H1 p = some (.lst xs) → ∀ Q : VK, sp [.ref p] H1 Q E) : Rz (tCall sp [] E (tCons ta tNil)) σ H := fun H1 e Q => h H1 e _ fun p H2 np e2 hp => hs p H2 (e.trans e2) hp Q
theorem rz_op2 (ha : Ev ta σ H x) (hb : Rz tb σ H) : Rz (tOp r ta tb) σ H := fun H1 e Q => ha H1 e _ fun H2 e2 => hb H2 (e.trans e2) _
theorem rz_op1 (ha : Rz ta σ H) : Rz (tOp r ta tb) σ H := fun H1 e Q => ha H1 e _
theorem rz_cb1 {rc : List V → Hp → VK → Prop} (ha : Rz ta σ H) : Rz (tCB rc (tCons ta tNil)) σ H := fun H1 e Q => ha H1 e _
theorem s_dropR (h : Rz te σ H) : tDrop te D σ H := h H (Ex.refl H) _
theorem q_dropR (h : Rz te σ H) : tSeq (tDrop te) tz D σ H := h H (Ex.refl H) _
theorem s_retR (h : Rz te σ H) : tRet te D σ H := h H (Ex.refl H) _
theorem q_asgR0 {i : Nat} (h : Rz te σ H) : tSeq (tAsg te (gName i)) tz D σ H := h H (Ex.refl H) _
/-- a call in a try, dropped -/
theorem s_dropS {sp : Sp} {E : L2.St → XK} {ta : TA} {vs : List V} (h : EvA ta σ H vs) (hs : ∀ H1, Ex H H1 → sp vs H1 (fun _ H2 => D.nx σ H2) (E σ)) : tDrop (tCallS sp E ta) D σ H := h H (Ex.refl H) _ fun H2 e2 => hs H2 e2
/-- what the clause wishes: the word is handed back -/
theorem word_wish {i : Nat} {c : Addr} {Wout : WX} {D : Ends} {ix : Nat} (hw : IsWord K c ix) (hix : ix < 6) (hi : i < σ.length) (k : ∀ H', Ex H H' → D.rt (.str (wordAt ix)) H') : wAs K (.ref (He.ga K "MoorError")) i (fun a cls d => tRet (tWord K a cls d (tVar i))) Wout D (.ref c) none σ H := by
  refine ⟨true, hw.moor, fun _ a na => ?_, fun z => by cases z⟩
  refine ⟨.ref a, ?_, rfl, c, ix, rfl, rfl, hix, hw, k⟩
  rw [List.getElem?_set_self hi]
theorem word_wish1 {i : Nat} {c : Addr} {Wout : WX} {D : Ends} {ix : Nat} (hw : IsWord K c ix) (hix : ix < 6) (hi : i < σ.length) (k : ∀ H', Ex H H' → D.rt (.str (wordAt ix)) H') : wAs K (.ref (He.ga K "MoorError")) i (fun a cls d => tRet (tWord K a cls d (tVar i))) Wout D (.ref c) none σ H := word_wish hw hix hi k
theorem q_whenN {b : Bool} (N : L2.St → Hp → Prop) (h : EvT t σ H b) (hk : ∀ σ' H', N σ' H' → tz D σ' H') (h1 : b = true → ∀ H1, Ex H H1 → (∀ σ' H', N σ' H' → tz D σ' H') → tu { D with nx := tz D } σ H1) (h2 : b = false → ∀ H1, Ex H H1 → N σ H1) : tSeq (tIfS t tu tNext) tz D σ H :=
  q_when h (fun hb H1 e1 => h1 hb H1 e1 hk) fun hb H1 e1 => hk _ _ (h2 hb H1 e1)
theorem ev_isE {a D0 C : Addr} {b : Bool} (ha : Ev ta σ H (.ref a)) (hb : Ev tb σ H (.ref C)) (hk : PySem.W.kitOne K (.ref D0) (.ref C) = some b) : Ev (tCB (rIsE K D0 a) (tCons ta (tCons tb tNil))) σ H (.bl b) := fun H1 e Q q =>
  ha H1 e _ fun H2 e2 => hb H2 (e.trans e2) _ fun H3 e3 => ⟨.ref C, .ref C, b, rfl, fun u r => by cases r; rfl, hk, q H3 (e2.trans e3)⟩
theorem ev_isEV {a D0 : Addr} {b : Bool} (ha : Ev ta σ H (.ref a)) (hk : PySem.W.kitOne K (.ref D0) (.type "ValueError") = some b) : Ev (tCB (rIsE K D0 a) (tCons ta (tCons (tC (.ty "ValueError")) tNil))) σ H (.bl b) := fun H1 e Q q =>
  ha H1 e _ fun H2 e2 => ⟨.ty "ValueError", .type "ValueError", b, rfl, fun u r => by cases r; rfl, hk, q H2 e2⟩
theorem ev_cntB {p : Addr} {bs : List Bool} {k : Bool} (ha : Ev ta σ H (.ref p)) (hb : Ev tb σ H (.bl k)) (hS : H p = some (.lst (bs.map V.bl))) : Ev (tBM K "list" (rCntB K) ta (tCons tb tNil)) σ H (.int ((bs.count k : Nat) : Int)) := fun H1 e Q q =>
  ha H1 e _ fun H2 e2 => ⟨Or.inl ⟨rfl, _, sq_of (e2 _ _ (e _ _ hS))⟩, hb H2 (e.trans e2) _ fun H3 e3 => ⟨p, bs, k, rfl, rfl, sq_of (e3 _ _ (e2 _ _ (e _ _ hS))), q H3 (e2.trans e3)⟩⟩
def marks (i : Nat) : List Bool := (List.range 6).map fun j => decide (j = i)
theorem ev_idxB {p : Addr} {i : Nat} (hi : i < 6) (ha : Ev ta σ H (.ref p)) (hb : Ev tb σ H (.bl true)) (hS : H p = some (.lst ((marks i).map V.bl))) : Ev (tBM K "list" (rIndex K) ta (tCons tb tNil)) σ H (.int (i : Int)) := fun H1 e Q q =>
  ha H1 e _ fun H2 e2 => ⟨Or.inl ⟨rfl, _, sq_of (e2 _ _ (e _ _ hS))⟩, hb H2 (e.trans e2) _ fun H3 e3 => ⟨p, (marks i).map V.bl, .bl true, i, .bl true, rfl, rfl, sq_of (e3 _ _ (e2 _ _ (e _ _ hS))), rfl, by
    rw [List.all_map, List.all_eq_true]
    intro _ _
    rfl, by
    unfold marks
    rw [List.getElem?_map, List.getElem?_map, List.getElem?_range hi]
    show some (V.bl (decide (i = i))) = _
    rw [decide_eq_true rfl], rfl, fun m z hm hz => by
    unfold marks at hz
    rw [List.getElem?_map, List.getElem?_map, List.getElem?_range (by omega)] at hz
    cases hz
    show (decide (m = i) == true) = false
    rw [decide_eq_false (by omega)]
    rfl, q H3 (e2.trans e3)⟩⟩
end
end Wm

/-! MATH: mooring at a quay -/
namespace Wm
theorem snocInd {α : Type} {P : List α → Prop} (h0 : P []) (hs : ∀ l x, P l → P (l ++ [x])) : ∀ {l : List α}, P l := by
  intro l
  have key : ∀ m : List α, P m.reverse := by
    intro m
    induction m with
    | nil => exact h0
    | cons x m ih =>
      rw [List.reverse_cons]
      exact hs _ _ ih
  have := key l.reverse
  rw [List.reverse_reverse] at this
  exact this
/-- the first free place from w on -/
def firstFree (long : Nat) (tk : Nat → Bool) (w : Nat) : Option Nat := (List.range' w (long - w)).find? fun p => !tk p
def moorStep (long : Nat) (acc : List (Option Nat)) (w : Nat) : List (Option Nat) := acc ++ [firstFree long (fun p => decide (some p ∈ acc)) w]
def mooredL (long : Nat) (ws : List Nat) : List (Option Nat) := ws.foldl (moorStep long) []
theorem mooredL_snoc (long : Nat) (ws : List Nat) (w : Nat) : mooredL long (ws ++ [w]) = mooredL long ws ++ [firstFree long (fun p => decide (some p ∈ mooredL long ws)) w] := by
  unfold mooredL
  rw [List.foldl_append]
  rfl
theorem mooredL_take {long : Nat} {ws : List Nat} {i w : Nat} (h : ws[i]? = some w) : mooredL long (ws.take (i + 1)) = mooredL long (ws.take i) ++ [firstFree long (fun p => decide (some p ∈ mooredL long (ws.take i))) w] := by
  rw [List.take_add_one, h]
  exact mooredL_snoc long (ws.take i) w
theorem foldl_len (long : Nat) : ∀ (ws : List Nat) (acc : List (Option Nat)), (ws.foldl (moorStep long) acc).length = acc.length + ws.length
  | [], acc => rfl
  | w :: ws, acc => by
    show (ws.foldl (moorStep long) (moorStep long acc w)).length = _
    rw [foldl_len long ws]
    unfold moorStep
    rw [List.length_append, List.length_cons, List.length_cons, List.length_nil]
    omega
theorem mooredL_len (long : Nat) (ws : List Nat) : (mooredL long ws).length = ws.length := by
  unfold mooredL
  rw [foldl_len]
  exact Nat.zero_add _
/-- what firstFree finds -/
theorem firstFree_some {long w p : Nat} {tk : Nat → Bool} (h : firstFree long tk w = some p) : w ≤ p ∧ p < long ∧ tk p = false ∧ ∀ q, w ≤ q → q < p → tk q = true := by
  unfold firstFree at h
  obtain ⟨h1, i, hi, e, hlt⟩ := List.find?_eq_some_iff_getElem.mp h
  rw [List.getElem_range'] at e
  rw [List.length_range'] at hi
  refine ⟨by omega, by omega, by simpa using h1, fun q hq hqp => ?_⟩
  have h2 := hlt (q - w) (by omega)
  rw [List.getElem_range'] at h2
  have e2 : w + 1 * (q - w) = q := by omega
  rw [e2] at h2
  simpa using h2
theorem firstFree_none {long w : Nat} {tk : Nat → Bool} (h : firstFree long tk w = none) : ∀ q, w ≤ q → q < long → tk q = true := by
  unfold firstFree at h
  intro q hq hl
  have h2 := List.find?_eq_none.mp h q (by rw [List.mem_range'_1]; omega)
  simpa using h2
theorem firstFree_is {long w p : Nat} {tk : Nat → Bool} (h1 : w ≤ p) (h2 : p < long) (h3 : tk p = false) (h4 : ∀ q, w ≤ q → q < p → tk q = true) : firstFree long tk w = some p := by
  cases e : firstFree long tk w with
  | none =>
    have := firstFree_none e p h1 h2
    rw [h3] at this
    cases this
  | some q =>
    obtain ⟨a, b, c, d⟩ := firstFree_some e
    by_cases hlt : q < p
    · rw [h4 q a hlt] at c
      cases c
    · by_cases hgt : p < q
      · rw [d p h1 hgt] at h3
        cases h3
      · have : q = p := by omega
        rw [this]
theorem firstFree_isNone {long w : Nat} {tk : Nat → Bool} (h : ∀ q, w ≤ q → q < long → tk q = true) : firstFree long tk w = none := by
  cases e : firstFree long tk w with
  | none => rfl
  | some p =>
    obtain ⟨a, b, c, d⟩ := firstFree_some e
    rw [h p a b] at c
    cases c
theorem mooredL_lt {long : Nat} {ws : List Nat} : ∀ {p : Nat}, some p ∈ mooredL long ws → p < long := by
  refine snocInd (P := fun ws => ∀ {p : Nat}, some p ∈ mooredL long ws → p < long) (fun h => by cases h) (fun ws w ih => ?_)
  · intro p h
    rw [mooredL_snoc, List.mem_append, List.mem_singleton] at h
    rcases h with h | h
    · exact ih h
    · exact (firstFree_some h.symm).2.1
end Wm

/-! MATH: a row of a quay -/
namespace Wm
structure Row (long : Nat) (ws : List Nat) : Prop where
  lo : 1 ≤ long
  hi : long ≤ 40
  few : ws.length ≤ long
  lt : ∀ w ∈ ws, w < long
end Wm

/-! MATH: what flows over from place to place -/
namespace Wm
def cAt (ws : List Nat) (p : Nat) : Nat := ws.countP fun w => decide (w = p)
def cnt (ws : List Nat) (p : Nat) : Nat := ws.countP fun w => decide (p ≤ w)
/-- how many boats come to place p from the places before it -/
def over (ws : List Nat) : Nat → Nat
  | 0 => 0
  | p + 1 => over ws p + cAt ws p - 1
theorem cAt_snoc (ws : List Nat) (w p : Nat) : cAt (ws ++ [w]) p = cAt ws p + if w = p then 1 else 0 := by
  unfold cAt
  rw [List.countP_append, List.countP_singleton]
  by_cases e : w = p <;> simp [e]
theorem over_before {ws : List Nat} {w : Nat} : ∀ {p : Nat}, p ≤ w → over (ws ++ [w]) p = over ws p
  | 0, _ => rfl
  | p + 1, h => by
    show over (ws ++ [w]) p + cAt (ws ++ [w]) p - 1 = over ws p + cAt ws p - 1
    rw [over_before (Nat.le_of_lt h), cAt_snoc, if_neg (by omega), Nat.add_zero]
/-- from w on while the places are taken, one boat more -/
theorem over_along {ws : List Nat} {w : Nat} : ∀ {k : Nat}, (∀ q, w ≤ q → q < w + k → 1 ≤ over ws q + cAt ws q) → 1 ≤ k → over (ws ++ [w]) (w + k) = over ws (w + k) + 1
  | 0, _, h => absurd h (by decide)
  | 1, h, _ => by
    show over (ws ++ [w]) w + cAt (ws ++ [w]) w - 1 = over ws w + cAt ws w - 1 + 1
    have := h w (Nat.le_refl _) (by omega)
    rw [over_before (Nat.le_refl w), cAt_snoc, if_pos rfl]
    omega
  | k + 2, h, _ => by
    have ih := over_along (ws := ws) (w := w) (k := k + 1) (fun q h1 h2 => h q h1 (by omega)) (by omega)
    have h2 := h (w + (k + 1)) (by omega) (by omega)
    show over (ws ++ [w]) (w + (k + 1)) + cAt (ws ++ [w]) (w + (k + 1)) - 1 = over ws (w + (k + 1)) + cAt ws (w + (k + 1)) - 1 + 1
    rw [ih, cAt_snoc, if_neg (by omega)]
    omega
/-- at the free place that the boat takes, one boat more stands there -/
theorem over_at {ws : List Nat} {w q : Nat} (hq : w ≤ q) (h : ∀ r, w ≤ r → r < q → 1 ≤ over ws r + cAt ws r) : over (ws ++ [w]) q + cAt (ws ++ [w]) q = over ws q + cAt ws q + 1 := by
  by_cases e : w = q
  · subst e
    rw [over_before (Nat.le_refl w), cAt_snoc, if_pos rfl]
    omega
  · have e2 : q = w + (q - w) := by omega
    have h2 := over_along (ws := ws) (w := w) (k := q - w) (fun r h1 h2 => h r h1 (by omega)) (by omega)
    rw [← e2] at h2
    rw [h2, cAt_snoc, if_neg e]
    omega
theorem over_after {ws : List Nat} {w q : Nat} (hq : w ≤ q) (h : ∀ r, w ≤ r → r < q → 1 ≤ over ws r + cAt ws r) (hz : over ws q + cAt ws q = 0) : ∀ {p : Nat}, q < p → over (ws ++ [w]) p = over ws p := by
  intro p hp
  induction p with
  | zero => omega
  | succ p ih =>
    show over (ws ++ [w]) p + cAt (ws ++ [w]) p - 1 = over ws p + cAt ws p - 1
    by_cases e : p = q
    · rw [e, over_at hq h]
      omega
    · rw [ih (by omega), cAt_snoc, if_neg (by omega), Nat.add_zero]
/-- a place is taken just where a boat comes to it -/
theorem taken_iff {long : Nat} {ws : List Nat} : (∀ w ∈ ws, w < long) → ∀ p, p < long → (some p ∈ mooredL long ws ↔ 1 ≤ over ws p + cAt ws p) := by
  refine snocInd (P := fun ws => (∀ w ∈ ws, w < long) → ∀ p, p < long → (some p ∈ mooredL long ws ↔ 1 ≤ over ws p + cAt ws p)) (fun _ p _ => ?_) (fun ws w ih hw p hp => ?_)
  · have h0 : ∀ p, over [] p = 0 := by
      intro p
      induction p with
      | zero => rfl
      | succ p ih =>
        show over [] p + cAt [] p - 1 = 0
        rw [ih]
        rfl
    rw [h0]
    constructor
    · intro h
      cases h
    · intro h
      exact absurd h (by unfold cAt; simp)
  have ih2 := ih fun x hx => hw x (List.mem_append_left _ hx)
  have hwl := hw w (List.mem_append_right _ (List.mem_singleton.mpr rfl))
  rw [mooredL_snoc, List.mem_append, List.mem_singleton]
  cases e : firstFree long (fun p => decide (some p ∈ mooredL long ws)) w with
  | none =>
    have h1 : ∀ r, w ≤ r → r < long → 1 ≤ over ws r + cAt ws r := fun r a b => (ih2 r b).mp (of_decide_eq_true (firstFree_none e r a b))
    have e3 : ¬ (some p = (none : Option Nat)) := fun z => by cases z
    simp only [e3, or_false]
    rw [ih2 p hp]
    by_cases hwp : w ≤ p
    · rw [over_at hwp fun r a b => h1 r a (by omega)]
      have := h1 p hwp hp
      omega
    · rw [over_before (by omega), cAt_snoc, if_neg (by omega), Nat.add_zero]
  | some q =>
    obtain ⟨a, b, c, d⟩ := firstFree_some e
    have h1 : ∀ r, w ≤ r → r < q → 1 ≤ over ws r + cAt ws r := fun r x y => (ih2 r (by omega)).mp (of_decide_eq_true (d r x y))
    have hz : over ws q + cAt ws q = 0 := by
      have h2 := of_decide_eq_false c
      rw [ih2 q b] at h2
      omega
    rw [ih2 p hp]
    have e3 : (some p = some q) ↔ p = q := ⟨Option.some.inj, congrArg some⟩
    rw [e3]
    by_cases hpq : p = q
    · subst hpq
      rw [over_at a h1]
      omega
    · by_cases hlt : p < q
      · by_cases hwp : w ≤ p
        · rw [over_at hwp fun r x y => h1 r x (by omega)]
          have := h1 p hwp hlt
          omega
        · rw [over_before (by omega), cAt_snoc, if_neg (by omega)]
          omega
      · rw [over_after a h1 hz (by omega), cAt_snoc, if_neg (by omega)]
        omega
/-- as many sail on as flow over behind the last place -/
theorem gone_count {long : Nat} {ws : List Nat} : (∀ w ∈ ws, w < long) → (mooredL long ws).countP (fun o => decide (o = none)) = over ws long := by
  refine snocInd (P := fun ws => (∀ w ∈ ws, w < long) → (mooredL long ws).countP (fun o => decide (o = none)) = over ws long) (fun _ => ?_) (fun ws w ih hw => ?_)
  · have h0 : ∀ p, over [] p = 0 := by
      intro p
      induction p with
      | zero => rfl
      | succ p ih =>
        show over [] p + cAt [] p - 1 = 0
        rw [ih]
        rfl
    rw [h0]
    rfl
  have hw2 : ∀ x ∈ ws, x < long := fun x hx => hw x (List.mem_append_left _ hx)
  have ih2 := ih hw2
  have hwl := hw w (List.mem_append_right _ (List.mem_singleton.mpr rfl))
  have tk := taken_iff (long := long) hw2
  rw [mooredL_snoc, List.countP_append, List.countP_singleton, ih2]
  cases e : firstFree long (fun p => decide (some p ∈ mooredL long ws)) w with
  | none =>
    have h1 : ∀ r, w ≤ r → r < long → 1 ≤ over ws r + cAt ws r := fun r a b => (tk r b).mp (of_decide_eq_true (firstFree_none e r a b))
    have e2 : long = w + (long - w) := by omega
    have h2 := over_along (ws := ws) (w := w) (k := long - w) (fun r a b => h1 r a (by omega)) (by omega)
    rw [← e2] at h2
    rw [h2]
    simp
  | some q =>
    obtain ⟨a, b, c, d⟩ := firstFree_some e
    have h1 : ∀ r, w ≤ r → r < q → 1 ≤ over ws r + cAt ws r := fun r x y => (tk r (by omega)).mp (of_decide_eq_true (d r x y))
    have hz : over ws q + cAt ws q = 0 := by
      have h2 := of_decide_eq_false c
      rw [tk q b] at h2
      omega
    rw [over_after a h1 hz b]
    simp
/-! counts from a place on -/
def cntB (ws : List Nat) (p n : Nat) : Nat := ws.countP fun w => decide (p ≤ w ∧ w < n)
theorem cntB_succ (p n : Nat) (h : p ≤ n) : ∀ ws : List Nat, cntB ws p (n + 1) = cntB ws p n + cAt ws n
  | [] => rfl
  | w :: ws => by
    have ih := cntB_succ p n h ws
    unfold cntB cAt at ih ⊢
    rw [List.countP_cons, List.countP_cons, List.countP_cons, ih]
    by_cases e : w = n
    · subst e
      have h1 : decide (p ≤ w ∧ w < w + 1) = true := decide_eq_true ⟨h, by omega⟩
      have h2 : decide (p ≤ w ∧ w < w) = false := decide_eq_false (by omega)
      simp only [h1, h2, decide_true, if_true, Bool.false_eq_true, if_false]
      omega
    · have h1 : decide (p ≤ w ∧ w < n + 1) = decide (p ≤ w ∧ w < n) := decide_eq_decide.mpr (by omega)
      have h2 : decide (w = n) = false := decide_eq_false e
      simp only [h1, h2, Bool.false_eq_true, if_false]
      omega
theorem cntB_self (ws : List Nat) (n : Nat) : cntB ws n n = 0 := by
  unfold cntB
  rw [List.countP_eq_zero]
  intro w _
  rw [decide_eq_true_eq]
  omega
theorem cntB_cnt {ws : List Nat} {long : Nat} (h : ∀ w ∈ ws, w < long) (p : Nat) : cntB ws p long = cnt ws p := by
  unfold cntB cnt
  refine List.countP_congr fun w hw => ?_
  have := h w hw
  rw [decide_eq_true_eq, decide_eq_true_eq]
  omega
theorem over_ge (ws : List Nat) : ∀ n p, p ≤ n → cntB ws p n ≤ over ws n + (n - p)
  | 0, p, h => by
    have e : p = 0 := by omega
    rw [e, cntB_self]
    omega
  | n + 1, p, h => by
    by_cases e : p = n + 1
    · rw [e, cntB_self]
      omega
    · have h2 : p ≤ n := by omega
      have ih := over_ge ws n p h2
      rw [cntB_succ p n h2]
      show _ ≤ over ws n + cAt ws n - 1 + (n + 1 - p)
      omega
theorem over_is (ws : List Nat) : ∀ n, ∃ p, p ≤ n ∧ cntB ws p n = over ws n + (n - p)
  | 0 => ⟨0, Nat.le_refl _, by rw [cntB_self]; rfl⟩
  | n + 1 => by
    obtain ⟨p, hp, e⟩ := over_is ws n
    by_cases h : 1 ≤ over ws n + cAt ws n
    · refine ⟨p, by omega, ?_⟩
      rw [cntB_succ p n hp, e]
      show _ = over ws n + cAt ws n - 1 + (n + 1 - p)
      omega
    · refine ⟨n + 1, Nat.le_refl _, ?_⟩
      rw [cntB_self]
      show 0 = over ws n + cAt ws n - 1 + (n + 1 - (n + 1))
      omega
/-- point 4 -/
theorem whole_iff {long : Nat} {ws : List Nat} (h : ∀ w ∈ ws, w < long) : none ∉ mooredL long ws ↔ ∀ p, p < long → cnt ws p ≤ long - p := by
  have h1 : none ∉ mooredL long ws ↔ over ws long = 0 := by
    rw [← gone_count h, List.countP_eq_zero]
    constructor
    · intro a o ho
      rw [decide_eq_true_eq]
      intro e
      rw [e] at ho
      exact a ho
    · intro a ho
      exact a none ho (decide_eq_true rfl)
  rw [h1]
  constructor
  · intro e p hp
    have := over_ge ws long p (by omega)
    rw [cntB_cnt h] at this
    omega
  · intro a
    obtain ⟨p, hp, e⟩ := over_is ws long
    rw [cntB_cnt h] at e
    by_cases hpl : p < long
    · have := a p hpl
      omega
    · have e2 : p = long := by omega
      have e3 : cnt ws p = 0 := by
        unfold cnt
        rw [List.countP_eq_zero]
        intro w hw
        have := h w hw
        rw [decide_eq_true_eq]
        omega
      omega
/-- the crowd -/
def CrowdIs (long : Nat) (ws : List Nat) : Option Nat → Prop
  | none => ∀ p, p < long → cnt ws p ≤ long - p
  | some p => p < long ∧ long - p < cnt ws p ∧ ∀ q, p < q → q < long → cnt ws q ≤ long - q
theorem CrowdIs.uniq {long : Nat} {ws : List Nat} {a b : Option Nat} (h : CrowdIs long ws a) (g : CrowdIs long ws b) : a = b := by
  cases a with
  | none => cases b with
    | none => rfl
    | some q =>
      obtain ⟨g1, g2, _⟩ := g
      have := h q g1
      omega
  | some p =>
    obtain ⟨h1, h2, h3⟩ := h
    cases b with
    | none =>
      have := g p h1
      omega
    | some q =>
      obtain ⟨g1, g2, g3⟩ := g
      congr 1
      by_cases l : p < q
      · have := h3 q l g1
        omega
      · by_cases l2 : q < p
        · have := g3 p l2 h1
          omega
        · omega
def crowdL (long : Nat) (ws : List Nat) : Option Nat := (List.range long).foldl (fun o p => if long - p < cnt ws p then some p else o) none
theorem crowdL_is (long : Nat) (ws : List Nat) : CrowdIs long ws (crowdL long ws) := by
  have key : ∀ n, n ≤ long → match (List.range n).foldl (fun o p => if long - p < cnt ws p then some p else o) none with
      | none => ∀ p, p < n → cnt ws p ≤ long - p
      | some p => p < n ∧ long - p < cnt ws p ∧ ∀ q, p < q → q < n → cnt ws q ≤ long - q := by
    intro n
    induction n with
    | zero =>
      intro _ p hp
      omega
    | succ n ih =>
      intro hn
      have ih2 := ih (by omega)
      rw [List.range_succ, List.foldl_append, List.foldl_cons, List.foldl_nil]
      by_cases c : long - n < cnt ws n
      · rw [if_pos c]
        exact ⟨by omega, c, fun q h1 h2 => by omega⟩
      · rw [if_neg c]
        generalize (List.range n).foldl (fun o p => if long - p < cnt ws p then some p else o) none = o at ih2
        cases o with
        | none =>
          intro p hp
          by_cases e : p = n
          · rw [e]
            omega
          · exact ih2 p (by omega)
        | some r =>
          obtain ⟨a, b, d⟩ := ih2
          refine ⟨by omega, b, fun q h1 h2 => ?_⟩
          by_cases e : q = n
          · rw [e]
            omega
          · exact d q h1 (by omega)
  have h := key long (Nat.le_refl _)
  unfold crowdL
  generalize (List.range long).foldl (fun o p => if long - p < cnt ws p then some p else o) none = o at h ⊢
  cases o with
  | none => exact h
  | some p => exact h
theorem cnt_succ (ws : List Nat) (p : Nat) : cnt ws p = cnt ws (p + 1) + cAt ws p := by
  unfold cnt cAt
  induction ws with
  | nil => rfl
  | cons w ws ih =>
    rw [List.countP_cons, List.countP_cons, List.countP_cons, ih]
    by_cases e : w = p
    · subst e
      have h1 : decide (w ≤ w) = true := decide_eq_true (Nat.le_refl _)
      have h2 : decide (w + 1 ≤ w) = false := decide_eq_false (by omega)
      simp only [h1, h2, decide_true, if_true, Bool.false_eq_true, if_false]
      omega
    · have h1 : decide (p ≤ w) = decide (p + 1 ≤ w) := decide_eq_decide.mpr (by omega)
      have h2 : decide (w = p) = false := decide_eq_false e
      simp only [h1, h2, Bool.false_eq_true, if_false]
      omega
theorem cnt_top {ws : List Nat} {long : Nat} (h : ∀ w ∈ ws, w < long) : cnt ws long = 0 := by
  unfold cnt
  rw [List.countP_eq_zero]
  intro w hw
  have := h w hw
  rw [decide_eq_true_eq]
  omega
end Wm

/-! ### texts of numbers -/
namespace Wm
open PySem PySem.Spec PyProof.Rows L2 Evl
def numS (n : Nat) : Str := Str.ofString (toString (n : Int))
theorem numS_len {n : Nat} (h : n < 100) : (numS n).length ≤ 3 := by
  unfold numS
  rw [PySem.ofString_length]
  exact int_text_length_le10 (k := 2) (by decide) (by show n < 10 ^ 2; omega)
def rowTo (t0 : Str) (ws : List Nat) : Str := ws.foldl (fun t w => t ++ Str.ofString " " ++ numS w) t0
theorem rowTo_take {t0 : Str} {ws : List Nat} {i w : Nat} (h : ws[i]? = some w) : rowTo t0 (ws.take (i + 1)) = rowTo t0 (ws.take i) ++ Str.ofString " " ++ numS w := by
  unfold rowTo
  rw [List.take_add_one, h, List.foldl_append]
  rfl
def headS (long : Nat) : Str := numS long ++ Str.ofString ":"
def rowText (long : Nat) (ws : List Nat) : Str := rowTo (headS long) ws
theorem one_len {s : String} (h : s.length = 1) : (Str.ofString s).length = 1 := by rw [PySem.ofString_length, h]
theorem rowTo_len {t0 : Str} {ws : List Nat} : (∀ w ∈ ws, w < 100) → (rowTo t0 ws).length ≤ t0.length + 4 * ws.length := by
  refine Wm.snocInd (P := fun ws => (∀ w ∈ ws, w < 100) → (rowTo t0 ws).length ≤ t0.length + 4 * ws.length) (fun _ => Nat.le_refl _) (fun l x ih hx => ?_)
  have h1 := ih fun w hw => hx w (List.mem_append_left _ hw)
  have h2 := numS_len (hx x (List.mem_append_right _ (List.mem_singleton.mpr rfl)))
  have e : rowTo t0 (l ++ [x]) = rowTo t0 l ++ Str.ofString " " ++ numS x := by
    unfold rowTo
    rw [List.foldl_append]
    rfl
  rw [e, Str.length_append, Str.length_append, one_len rfl, List.length_append]
  show _ ≤ _ + 4 * (l.length + 1)
  omega
theorem headS_len {long : Nat} (h : long < 100) : (headS long).length ≤ 4 := by
  unfold headS
  rw [Str.length_append, one_len rfl]
  have := numS_len h
  omega
section
variable {K : Kf} {σ : L2.St} {H H' : Hp} {ta tb te : TE}
def rAddS : R2 := fun x y H Q => ∃ i j, x = .str i ∧ y = .str j ∧ i.length + j.length ≤ sizeLine ∧ Q (.str (i ++ j)) H
theorem rv_addS {i j : Str} (h : i.length + j.length ≤ 100000) : RV rAddS (.str i) (.str j) H (.str (i ++ j)) := fun H1 _ Q q => ⟨i, j, rfl, rfl, sz_of h, q H1 (Ex.refl H1)⟩
def rStrI : List V → Hp → VK → Prop := fun xs H Q => ∃ i : Int, xs = [.int i] ∧ i.natAbs.log2 < 1920 ∧ Q (.str (Str.ofString (toString i))) H
theorem ev_str {n : Nat} (ha : Ev ta σ H (.int (n : Int))) (hn : n < 1000) : Ev (tCB rStrI (tCons ta tNil)) σ H (.str (numS n)) := fun H1 e Q q =>
  ha H1 e _ fun H2 e2 => ⟨(n : Int), rfl, Nat.lt_of_le_of_lt (Nat.log2_le_self _) (by show n < 1920; omega), q H2 e2⟩
end
end Wm

namespace Wm
open PySem PySem.Spec PyProof.Rows L2 Evl
def top (i : Nat) : Stmt := PySem.Challenge.pw_wishmoor_k04_refused_rows.main.body.getD i (.Pass ⟨0, 0, 0, 0⟩)
section
variable {P : Program} {w : World} {K : Kf} {mg : Mg} {base : Heap}
abbrev s_l_cell_at : Stmt := top 16
abbrev N_l_cell_at : List Str := ["script", "k"]
theorem sc_l_cell_at : FnScope N_l_cell_at ["script", "k"] (defScope s_l_cell_at) := ⟨rfl, rfl, rfl, by decide +kernel, rfl, by decide +kernel, by decide +kernel⟩
theorem bw_l_cell_at : BindsWell "_law_cell_at" s_l_cell_at ["script", "k"] := fun _ _ _ _ _ _ us hl => match us, hl with | [_, _], _ => rfl

def cellAt (ns : List Int) (z : Int) : Int := if z < ns.length then ns.getD z.toNat 0 else 0
def sp_l_cell_at (K : Kf) : Sp := fun vs H Q _ => ∃ (a : Addr) (ns : List Int) (z : Int), vs = [.ref a, .int z] ∧ SqL K H a (ns.map V.int) ∧ 0 ≤ z ∧ RetV (.int (cellAt ns z)) H Q
theorem sv_cell {K : Kf} {σ : L2.St} {H : Hp} {E : XK} {ta : TA} {a : Addr} {ns : List Int} {z : Int} (h : EvA ta σ H [.ref a, .int z]) (hS : SqL K H a (ns.map V.int)) (hz : 0 ≤ z) : Ev (tCall (sp_l_cell_at K) [] E ta) σ H (.int (cellAt ns z)) :=
  ev_callV h fun H1 e Q q E => ⟨a, ns, z, rfl, ex_l e hS, hz, q⟩
local macro_rules | `(tactic| walk_at "call") => `(tactic| ((with_reducible refine' Wm.sv_cell ?ha ?hb ?hc); (case ha => walk_at "ea"); (case hb => walk_at "sq"); (case hc => omega)))
theorem ok_l_cell_at (D : Def K mg "_law_cell_at" s_l_cell_at) (T : Txt mg)  : Own P w K mg base CX0 1 "_law_cell_at" ["script", "k"] (sp_l_cell_at K) := by
  refine D.calm sc_l_cell_at bw_l_cell_at (fun vs H Q E h => ?_) (fun f cdv A outer s H vs Q E hr h => ?_)
  · obtain ⟨a, ns, z, rfl, _⟩ := h
    rfl
  · obtain ⟨a, ns, z, rfl, hS, hz, kQ⟩ := h
    refine ⟨_, (pss_cons (ps_if (pt_cmpR op_lt (pv 1) (pe_callB cr_len (by rfl) T.len PySem.boot_len (pa_cons (pv 0) pa_nil)) (nomark _))
        (pss_one (ps_ret (pe_ix ix_list (pv 0) (pv 1) (fun _ _ => rfl))))
        pss_nil)
        (pss_one (ps_ret pe_int))), ?_⟩
    try dsimp only [cxOf]
    refine q_when (by walk_at "et") (fun hb H1 e1 => ?_) (fun hb H1 e1 => ?_)
    · have hz2 := of_decide_eq_true hb
      rw [List.length_map] at hz2
      refine s_ret (by walk_at "ev") fun H2 e2 => ?_
      have hk := kQ H2 (by walk_at "ex")
      unfold cellAt at hk
      rw [if_pos hz2] at hk
      exact hk
    · have hz2 := of_decide_eq_false hb
      rw [List.length_map] at hz2
      refine s_ret (by walk_at "ev") fun H2 e2 => ?_
      have hk := kQ H2 (by walk_at "ex")
      unfold cellAt at hk
      rw [if_neg hz2] at hk
      exact hk

abbrev s_asked : Stmt := top 10
abbrev N_asked : List Str := ["long", "wishes", "wish"]
theorem sc_asked : FnScope N_asked ["long", "wishes"] (defScope s_asked) := ⟨rfl, rfl, rfl, by decide +kernel, rfl, by decide +kernel, by decide +kernel⟩
theorem bw_asked : BindsWell "asked" s_asked ["long", "wishes"] := fun _ _ _ _ _ _ us hl => match us, hl with | [_, _], _ => rfl

/-- what is wrong, by the number of its class: the quay, the row -/
def AskBad (z : Int) (ns : List Int) (i : Nat) : Prop := (i = 0 ∧ (z < 1 ∨ 40 < z)) ∨ (i = 1 ∧ 1 ≤ z ∧ z ≤ 40 ∧ (z < (ns.length : Int) ∨ ∃ w ∈ ns, w < 0 ∨ z ≤ w))
theorem AskBad.six {z : Int} {ns : List Int} {i : Nat} (h : AskBad z ns i) : i < 6 := by
  rcases h with ⟨rfl, _⟩ | ⟨rfl, _⟩ <;> decide
theorem nat_list {ns : List Int} (h : ∀ w ∈ ns, 0 ≤ w) : ∃ ws : List Nat, ns = ws.map Int.ofNat := by
  refine ⟨ns.map Int.toNat, ?_⟩
  rw [List.map_map]
  have e : ns.map (Int.ofNat ∘ Int.toNat) = ns.map id := List.map_congr_left fun w hw => Int.toNat_of_nonneg (h w hw)
  rw [e, List.map_id]
theorem ask_or (z : Int) (ns : List Int) : (∃ i, AskBad z ns i) ∨ ∃ (long : Nat) (ws : List Nat), z = (long : Int) ∧ ns = ws.map Int.ofNat ∧ Row long ws := by
  by_cases c1 : z < 1 ∨ 40 < z
  · exact .inl ⟨0, .inl ⟨rfl, c1⟩⟩
  · rcases Classical.em (z < (ns.length : Int) ∨ ∃ w ∈ ns, w < 0 ∨ z ≤ w) with c2 | c2
    · exact .inl ⟨1, .inr ⟨rfl, by omega, by omega, c2⟩⟩
    · right
      have h3 : ∀ w ∈ ns, 0 ≤ w ∧ w < z := fun w hw => by
        have n1 : ¬ w < 0 := fun y => c2 (.inr ⟨w, hw, .inl y⟩)
        have n2 : ¬ z ≤ w := fun y => c2 (.inr ⟨w, hw, .inr y⟩)
        omega
      obtain ⟨ws, rfl⟩ := nat_list fun w hw => (h3 w hw).1
      have n3 : ¬ z < ((ws.map Int.ofNat).length : Int) := fun y => c2 (.inl y)
      rw [List.length_map] at n3
      refine ⟨z.toNat, ws, by omega, rfl, by omega, by omega, by omega, fun w hw => ?_⟩
      have := (h3 (w : Int) (List.mem_map.mpr ⟨w, hw, rfl⟩)).2
      omega
theorem ask_good {long : Nat} {ws : List Nat} (h : Row long ws) (i : Nat) : ¬ AskBad (long : Int) (ws.map Int.ofNat) i := by
  obtain ⟨h1, h2, h3, h4⟩ := h
  rintro (⟨_, g⟩ | ⟨_, _, _, g | ⟨w, hw, g⟩⟩)
  · omega
  · rw [List.length_map] at g
    omega
  · obtain ⟨x, hx, rfl⟩ := List.mem_map.mp hw
    have := h4 x hx
    have e : Int.ofNat x = (x : Int) := rfl
    omega
theorem map_nat {ws us : List Nat} (h : ws.map Int.ofNat = us.map Int.ofNat) : ws = us := (List.map_inj_right (fun x y h => Int.ofNat.inj h)).mp h
def sp_asked (K : Kf) : Sp := fun vs H Q E => ∃ (a : Addr) (z : Int) (ns : List Int), vs = [.int z, .ref a] ∧ SqL K H a (ns.map V.int) ∧ (∀ i, AskBad z ns i → ∀ H', Ex H H' → E (.ref (He.ga K (classAt i))) none H') ∧ (∀ long ws, z = ((long : Nat) : Int) → ns = ws.map Int.ofNat → Row long ws → RetV .non H Q)
theorem sv_asked {K : Kf} {σ : L2.St} {H : Hp} {E : XK} {ta : TA} {a : Addr} {long : Nat} {ws : List Nat} (h : EvA ta σ H [.int (long : Int), .ref a]) (hS : SqL K H a (vn ws)) (hR : Row long ws) : Ev (tCall (sp_asked K) [] E ta) σ H .non :=
  ev_callV h fun H1 e Q q E => ⟨a, long, ws.map Int.ofNat, rfl, by rw [← vn_ints]; exact ex_l e hS, fun i hb => absurd hb (ask_good hR i), fun _ _ _ _ _ => q⟩
theorem rz_asked {K : Kf} {σ : L2.St} {H : Hp} {E : XK} {ta : TA} {a : Addr} {z : Int} {ns : List Int} {i : Nat} (h : EvA ta σ H [.int z, .ref a]) (hS : SqL K H a (ns.map V.int)) (hb : AskBad z ns i) (hE : ∀ i, AskBad z ns i → ∀ H', Ex H H' → E (.ref (He.ga K (classAt i))) none H') : Rz (tCall (sp_asked K) [] E ta) σ H :=
  rz_call h fun H1 e Q => ⟨a, z, ns, rfl, ex_l e hS, fun i hb H' e2 => hE i hb H' (e.trans e2), fun long ws e1 e2 hR => absurd hb (by rw [e1, e2]; exact ask_good hR i)⟩
theorem ok_asked (D : Def K mg "asked" s_asked) (T : Txt mg) {tLONGEST : Tok} (cLONGEST : mg "LONGEST" = some (.int 40 tLONGEST)) (E_NoQuay : Exc K mg "NoQuay") (E_NoRow : Exc K mg "NoRow") : Own P w K mg base (L2.CX P w) 1 "asked" ["long", "wishes"] (sp_asked K) := by
  refine D.hot sc_asked bw_asked (fun vs H Q E h => ?_) (fun f cdv A outer s H vs Q E hr h => ?_)
  · obtain ⟨a, z, ns, rfl, _⟩ := h
    rfl
  · obtain ⟨a, z, ns, rfl, hS, hE, kQ⟩ := h
    refine ⟨_, (pss_cons (ps_if (PW.pt (pw_or (pt_cmpR op_lt (pv 0) pe_int (nomark _)) (pw_or1 (pt_cmpR op_gt (pv 0) (pe_glob (v := .int 40) rfl cLONGEST ⟨_, rfl⟩) (nomark _)))))
        (pss_one (ps_raise rfl (takes_of rfl rfl rfl rfl) (pmk_own PySem.F.excBase_ValueError E_NoQuay.x E_NoQuay.g E_NoQuay.k (raises_own E_NoQuay.b E_NoQuay.t) rfl)))
        pss_nil)
        (pss_cons (ps_if (pt_cmpR op_gt (pe_callB cr_len (by rfl) T.len PySem.boot_len (pa_cons (pv 1) pa_nil)) (pv 0) (nomark _))
        (pss_one (ps_raise rfl (takes_of rfl rfl rfl rfl) (pmk_own PySem.F.excBase_ValueError E_NoRow.x E_NoRow.g E_NoRow.k (raises_own E_NoRow.b E_NoRow.t) rfl)))
        pss_nil)
        (pss_one (ps_for (passes_of rfl) rfl (pi_list (pv 1)) (pg_name (i := 2) sc_asked.nd rfl (Or.inl rfl))
        (pss_one (ps_if (PW.pt (pw_or (pt_cmpR op_lt (pv 2) pe_int (nomark _)) (pw_or1 (pt_cmpR op_ge (pv 2) (pv 0) (nomark _)))))
          (pss_one (ps_raise rfl (takes_of rfl rfl rfl rfl) (pmk_own PySem.F.excBase_ValueError E_NoRow.x E_NoRow.g E_NoRow.k (raises_own E_NoRow.b E_NoRow.t) rfl)))
          pss_nil)))))), ?_⟩
    try dsimp only [cxOf]
    refine q_when (by walk_at "et") (fun hb H1 e1 => ?_) (fun hb H1 e1 => ?_)
    · rw [Bool.or_eq_true, decide_eq_true_eq, decide_eq_true_eq] at hb
      exact hE 0 (.inl ⟨rfl, hb⟩) H1 e1
    rw [Bool.or_eq_false_iff, decide_eq_false_iff_not, decide_eq_false_iff_not] at hb
    refine q_when (et_test (ev_op (ev_is (ev_len (K := K) (ev_var rfl) (ex_l e1 hS)) (by rw [List.length_map])) (ev_var rfl) rv_I0)) (fun hb2 H2 e2 => ?_) (fun hb2 H2 e2 => ?_)
    · exact hE 1 (.inr ⟨rfl, by omega, by omega, .inl (of_decide_eq_true hb2)⟩) H2 (e1.trans e2)
    have hb3 := of_decide_eq_false hb2
    have eH2 : Ex H H2 := e1.trans e2
    refine s_forLn (K := K) (a := a) (xs := ns.map V.int) (by walk_at "ev") (ex_l eH2 hS) (fun i σ' H' => ∃ o, σ' = [some (.int z), some (.ref a), o] ∧ Ex H H' ∧ ∀ w ∈ ns.take i, 0 ≤ w ∧ w < z) (fun H3 e3 => ⟨none, rfl, eH2.trans e3, fun w hw => by cases hw⟩) (fun i σ' H' _ p => ?_) ?_ ?_
    · obtain ⟨_, _, eH, _⟩ := p
      exact ex_l eH hS
    · rintro i x σ' H' hx ⟨o, rfl, eH, hq⟩
      obtain ⟨w, rfl, hw, hi, hm, _⟩ := map_at hx
      refine s_when (by walk_at "et") (fun hb2 H3 e3 => ?_) (fun hb2 H3 e3 => ?_)
      · rw [Bool.or_eq_true, decide_eq_true_eq, decide_eq_true_eq] at hb2
        exact hE 1 (.inr ⟨rfl, by omega, by omega, .inr ⟨w, hm, hb2⟩⟩) H3 (eH.trans e3)
      · rw [Bool.or_eq_false_iff, decide_eq_false_iff_not, decide_eq_false_iff_not] at hb2
        refine ⟨_, rfl, eH.trans e3, fun y hy => ?_⟩
        rw [take_succ_of hw] at hy
        rcases List.mem_append.mp hy with hy | hy
        · exact hq y hy
        · rw [List.mem_singleton.mp hy]
          omega
    · rintro σ' H' ⟨o, rfl, eH, hq⟩
      rw [List.length_map, List.take_length] at hq
      obtain ⟨ws, rfl⟩ := nat_list fun w hw => (hq w hw).1
      rw [List.length_map] at hb3
      exact kQ z.toNat ws (by omega) rfl ⟨by omega, by omega, by omega, fun w hw => by
        have := (hq (w : Int) (List.mem_map.mpr ⟨w, hw, rfl⟩)).2
        omega⟩ H' eH

abbrev s_moored : Stmt := top 11
abbrev N_moored : List Str := ["long", "wishes", "taken", "found", "wish", "place"]
theorem sc_moored : FnScope N_moored ["long", "wishes"] (defScope s_moored) := ⟨rfl, rfl, rfl, by decide +kernel, rfl, by decide +kernel, by decide +kernel⟩
theorem bw_moored : BindsWell "moored" s_moored ["long", "wishes"] := fun _ _ _ _ _ _ us hl => match us, hl with | [_, _], _ => rfl

def takenL (long : Nat) (acc : List (Option Nat)) : List V := (List.range long).map fun p => V.bl (decide (some p ∈ acc))
theorem takenL_len (long : Nat) (acc : List (Option Nat)) : (takenL long acc).length = long := by
  unfold takenL
  rw [List.length_map, List.length_range]
theorem takenL_at {long : Nat} {acc : List (Option Nat)} {p : Nat} (h : p < long) : (takenL long acc)[p]? = some (.bl (decide (some p ∈ acc))) := by
  unfold takenL
  rw [List.getElem?_map, List.getElem?_range h]
  rfl
theorem takenL_set {long : Nat} {acc : List (Option Nat)} {p : Nat} : (takenL long acc).set p (.bl true) = takenL long (acc ++ [some p]) := by
  refine List.ext_getElem? fun q => ?_
  rw [List.getElem?_set]
  by_cases hq : q < long
  · rw [takenL_at hq, takenL_len]
    by_cases e : p = q
    · rw [if_pos e, if_pos (by omega)]
      rw [takenL_at hq, e, decide_eq_true (List.mem_append_right acc (List.mem_singleton.mpr rfl))]
    · rw [if_neg e, takenL_at hq]
      refine congrArg (fun b => some (V.bl b)) (decide_eq_decide.mpr ?_)
      rw [List.mem_append, List.mem_singleton]
      have e2 : ¬ (some q = some p) := fun z => e (Option.some.inj z).symm
      simp only [e2, or_false]
  · have h1 : (takenL long (acc ++ [some p]))[q]? = none := List.getElem?_eq_none (by rw [takenL_len]; omega)
    have h2 : (takenL long acc)[q]? = none := List.getElem?_eq_none (by rw [takenL_len]; omega)
    rw [h1, h2, takenL_len]
    by_cases e : p = q
    · rw [if_pos e, if_neg (by omega)]
    · rw [if_neg e]
theorem takenL_none {long : Nat} {acc : List (Option Nat)} : takenL long (acc ++ [none]) = takenL long acc := by
  unfold takenL
  refine List.map_congr_left fun p _ => ?_
  refine congrArg V.bl (decide_eq_decide.mpr ?_)
  rw [List.mem_append, List.mem_singleton]
  have e2 : ¬ (some p = none) := fun z => by cases z
  simp only [e2, or_false]
def sp_moored (K : Kf) : Sp := fun vs H Q E => ∃ (a : Addr) (z : Int) (ns : List Int), vs = [.int z, .ref a] ∧ SqL K H a (ns.map V.int) ∧ (∀ i, AskBad z ns i → ∀ H', Ex H H' → E (.ref (He.ga K (classAt i))) none H') ∧ (∀ long ws, z = ((long : Nat) : Int) → ns = ws.map Int.ofNat → Row long ws → RetL (vos (mooredL long ws)) H Q)
theorem ok_moored (D : Def K mg "moored" s_moored) (T : Txt mg) (O_asked : Own P w K mg base (L2.CX P w) 1 "asked" ["long", "wishes"] (sp_asked K)) : Own P w K mg base (L2.CX P w) 2 "moored" ["long", "wishes"] (sp_moored K) := by
  refine D.hot sc_moored bw_moored (fun vs H Q E h => ?_) (fun f cdv A outer s H vs Q E hr h => ?_)
  · obtain ⟨a, z, ns, rfl, _⟩ := h
    rfl
  · obtain ⟨a, z, ns, rfl, hS, hE, kG⟩ := h
    have hr_asked : Room 1 _ := hr.mono (by decide)
    refine ⟨_, (pss_cons (ps_expr (pe_own (E := E) O_asked hr_asked (passes_call (takes_of rfl rfl rfl rfl) (fun _ _ _ _ h => h)) (pa_cons (pv 0) (pa_cons (pv 1) pa_nil))))
        (pss_cons (ps_setLc (i := 2) (own := [("place", 5)]) (g := gName 5) rfl sc_moored.nd rfl rfl (sw_true rfl rfl rfl (by decide +kernel)) (pi_range1 (by rfl) T.range (pa_cons (pv 0) pa_nil)) (blkOk_by (N := N_moored) (sc := defScope s_moored) (by decide +kernel)) (fun _ _ _ _ _ => pg_name (i := 5) sc_moored.nd rfl (.inl rfl)) (fun _ _ _ _ _ => pts_nil) (fun _ _ _ _ _ => pe_bl))
        (pss_cons (ps_set (i := 3) sc_moored.nd rfl (Or.inl rfl) (pe_lst pa_nil))
        (pss_cons (ps_for (passes_of rfl) rfl (pi_list (pv 1)) (pg_name (i := 4) sc_moored.nd rfl (Or.inl rfl))
        (pss_cons (ps_set (i := 5) sc_moored.nd rfl (Or.inl rfl) (pv 4))
          (pss_cons (ps_while (passes_of rfl) (PW.pt (pw_and (pt_cmpR op_lt (pv 5) (pv 0) (nomark _)) (pw_and1 (pt_val (pe_ix ix_list (pv 2) (pv 5) (fun _ _ => rfl))))))
          (pss_one (ps_set (i := 5) sc_moored.nd rfl (Or.inl rfl) (pe_op op_add (pv 5) pe_int))))
          (pss_one (ps_if (pt_cmpR op_lt (pv 5) (pv 0) (nomark _))
          (pss_cons (ps_asg pe_bl (pg_sub (pv 2) (pv 5) set_list))
            (pss_one (ps_expr (pe_bm PySem.F.plainAttrs_list PySem.F.slot_list_append PySem.F.type_list_append mt_append (pv 3) (pa_cons (pv 5) pa_nil)))))
          (pss_one (ps_expr (pe_bm PySem.F.plainAttrs_list PySem.F.slot_list_append PySem.F.type_list_append mt_append (pv 3) (pa_cons pe_non pa_nil)))))))))
        (pss_one (ps_ret (pv 3))))))), ?_⟩
    try dsimp only [cxOf]
    rcases ask_or z ns with ⟨ib, hb⟩ | ⟨long, ws, rfl, rfl, hR⟩
    · exact q_dropR (rz_asked (by walk_at "ea") hS hb hE)
    have kQ := kG long ws rfl rfl hR
    rw [← vn_ints] at hS
    obtain ⟨r1, r2, r3, r4⟩ := id hR
    refine q_drop (sv_asked (by walk_at "ea") hS hR) fun H1 e1 => ?_
    refine q_asgL (xs := takenL long []) (el_is (el_lcR1 (n := (long : Int)) (fun _ => true) (fun _ => .bl false) (by walk_at "ea") (by omega) (fun _ => rfl) (fun _ _ _ _ => et_yes) (fun _ _ _ _ _ => ev_c)) ?_) fun tk H2 ntk e2 htk => ?_
    · rw [given_all (fun _ => rfl), Int.toNat_natCast]
      unfold takenL
      refine List.map_congr_left fun p _ => ?_
      rw [decide_eq_false List.not_mem_nil]
    refine q_asgL (by walk_at "el") fun fo H3 nfo e3 hfo => ?_
    have eH3 : Ex H H3 := by walk_at "ex"
    have ntk0 : H tk = none := fresh_back e1 ntk
    have nfo0 : H fo = none := fresh_back (e1.trans e2) nfo
    refine q_forLn (K := K) (a := a) (xs := vn ws) (by walk_at "ev") (ex_l eH3 hS) (fun i σ' H' => ∃ o4 o5, σ' = [some (.int (long : Int)), some (.ref a), some (.ref tk), some (.ref fo), o4, o5] ∧ Ex H H' ∧ H' tk = some (.lst (takenL long (mooredL long (ws.take i)))) ∧ H' fo = some (.lst (vos (mooredL long (ws.take i)))))
      (fun H4 e4 => ⟨none, none, rfl, eH3.trans e4, e4 tk _ (e3 tk _ htk), e4 fo _ hfo⟩) (fun i σ' H' _ p => ?_) ?_ ?_
    · obtain ⟨_, _, _, eH, _⟩ := p
      exact ex_l eH hS
    · rintro i x σ' H' hx ⟨o4, o5, rfl, eH, ht, hf⟩
      obtain ⟨w, rfl, hw, hi, hm⟩ := vn_at hx
      have hwl := r4 w hm
      have step := mooredL_take (long := long) hw
      generalize hacc : mooredL long (ws.take i) = acc at step ht hf
      have hlen : acc.length ≤ 1000 := by
        rw [← hacc, mooredL_len, List.length_take]
        omega
      have htf : fo ≠ tk := fun z => by
        rw [z] at nfo
        rw [nfo] at htk
        cases htk
      refine q_asg (by walk_at "ev") fun H4 e4 => ?_
      -- the while: from w on all places are taken
      refine q_while (fun m σ' H' => ∃ p : Nat, m = long - p ∧ w ≤ p ∧ p ≤ long ∧ (∀ q, w ≤ q → q < p → some q ∈ acc) ∧ σ' = [some (.int (long : Int)), some (.ref a), some (.ref tk), some (.ref fo), some (.int (w : Int)), some (.int (p : Int))] ∧ Ex H4 H') (long - w) ⟨w, rfl, Nat.le_refl _, by omega, fun q h1 h2 => by omega, rfl, Ex.refl _⟩ ?_
      rintro m σ' H5 ⟨p, rfl, hp1, hp2, hp3, rfl, e5⟩
      have ht5 : H5 tk = some (.lst (takenL long acc)) := e5 _ _ (e4 _ _ ht)
      have hf5 : H5 fo = some (.lst (vos acc)) := e5 _ _ (e4 _ _ hf)
      by_cases hpl : p < long
      · have hat := takenL_at (acc := acc) hpl
        refine ⟨decide (some p ∈ acc), et_is (et_and (a := true) (b := decide (some p ∈ acc)) (et_is (et_test (by walk_at "ev")) (decide_eq_true (by omega))) fun _ => et_B (ev_ixL (ev_var rfl) (ev_var rfl) (sq_of ht5) (atI_nat hat))) (Bool.true_and _), fun hb H6 e6 => ?_, fun hb H6 e6 => ?_⟩
        · refine ⟨fun σ2 H2 => σ2 = [some (.int (long : Int)), some (.ref a), some (.ref tk), some (.ref fo), some (.int (w : Int)), some (.int ((p : Int) + 1))] ∧ Ex H4 H2, ?_, ?_⟩
          · rintro σ2 H2 ⟨rfl, e2⟩
            refine ⟨long - (p + 1), by omega, p + 1, rfl, by omega, by omega, fun q h1 h2 => ?_, ?_, e2⟩
            · by_cases hqp : q = p
              · rw [hqp]
                exact of_decide_eq_true hb
              · exact hp3 q h1 (by omega)
            · rw [Int.natCast_add]
              rfl
          · refine s_asg (by walk_at "ev") fun H7 e7 => ⟨rfl, by walk_at "ex"⟩
        · -- a free place
          have ff : firstFree long (fun p => decide (some p ∈ acc)) w = some p := firstFree_is hp1 hpl hb fun q h1 h2 => decide_eq_true (hp3 q h1 h2)
          refine s_if (b := true) (et_is (et_test (by walk_at "ev")) (decide_eq_true (by omega))) (fun _ H7 e7 => ?_) (fun h => by cases h)
          refine q_setL (j := p) (e7 _ _ (e6 _ _ ht5)) (by walk_at "ev") (by walk_at "ev") (by walk_at "ev") (by rw [takenL_len]; exact hpl) fun H8 e8 => ?_
          refine s_app (xs := vos acc) (by rw [upd_ne htf]; exact e8 _ _ (e7 _ _ (e6 _ _ hf5))) (by walk_at "ev") (by walk_at "ev") (by rw [vos_len]; omega) fun H9 e9 => ?_
          refine ⟨_, _, rfl, ((((eH.trans e4).trans (e5.trans e6)).trans (e7.trans e8)).mut ntk0).trans e9 |>.mut nfo0, ?_, ?_⟩
          · rw [upd_ne htf.symm, step, ff]
            rw [← takenL_set]
            exact e9 _ _ upd_same
          · rw [upd_same, step, ff, vos_snoc]
            rfl
      · have hpe : p = long := by omega
        have ff : firstFree long (fun p => decide (some p ∈ acc)) w = none := firstFree_isNone fun q h1 h2 => decide_eq_true (hp3 q h1 (by omega))
        refine ⟨false, et_is (et_and (a := false) (b := false) (et_is (et_test (by walk_at "ev")) (decide_eq_false (by omega))) fun h => by cases h) rfl, (fun h => by cases h), fun _ H6 e6 => ?_⟩
        refine s_if (b := false) (et_is (et_test (by walk_at "ev")) (decide_eq_false (by omega))) (fun h => by cases h) (fun _ H7 e7 => ?_)
        refine s_app (xs := vos acc) (e7 _ _ (e6 _ _ hf5)) (by walk_at "ev") (by walk_at "ev") (by rw [vos_len]; omega) fun H8 e8 => ?_
        refine ⟨_, _, rfl, (((eH.trans e4).trans (e5.trans e6)).trans (e7.trans e8)).mut nfo0, ?_, ?_⟩
        · rw [upd_ne htf.symm, step, ff, takenL_none]
          exact e8 _ _ (e7 _ _ (e6 _ _ ht5))
        · rw [upd_same, step, ff, vos_snoc]
          rfl
    · rintro σ' H' ⟨o4, o5, rfl, eH, ht, hf⟩
      refine s_ret (by walk_at "ev") fun H4 e4 => ?_
      rw [vn_len, List.take_length] at hf
      exact kQ fo H4 nfo0 (eH.trans e4) (e4 fo _ hf)

abbrev s_crowd : Stmt := top 12
abbrev N_crowd : List Str := ["long", "wishes", "many", "place", "wish"]
theorem sc_crowd : FnScope N_crowd ["long", "wishes"] (defScope s_crowd) := ⟨rfl, rfl, rfl, by decide +kernel, rfl, by decide +kernel, by decide +kernel⟩
theorem bw_crowd : BindsWell "crowd" s_crowd ["long", "wishes"] := fun _ _ _ _ _ _ us hl => match us, hl with | [_, _], _ => rfl

def sp_crowd (K : Kf) : Sp := fun vs H Q E => ∃ (a : Addr) (z : Int) (ns : List Int), vs = [.int z, .ref a] ∧ SqL K H a (ns.map V.int) ∧ (∀ i, AskBad z ns i → ∀ H', Ex H H' → E (.ref (He.ga K (classAt i))) none H') ∧ (∀ long ws, z = ((long : Nat) : Int) → ns = ws.map Int.ofNat → Row long ws → RetV (vo (crowdL long ws)) H Q)
theorem sv_crowd {K : Kf} {σ : L2.St} {H : Hp} {E : XK} {ta : TA} {a : Addr} {long : Nat} {ws : List Nat} (h : EvA ta σ H [.int (long : Int), .ref a]) (hS : SqL K H a (vn ws)) (hR : Row long ws) : Ev (tCall (sp_crowd K) [] E ta) σ H (vo (crowdL long ws)) :=
  ev_callV h fun H1 e Q q E => ⟨a, long, ws.map Int.ofNat, rfl, by rw [← vn_ints]; exact ex_l e hS, fun i hb => absurd hb (ask_good hR i), fun l us e1 e2 _ => by
    have e3 : long = l := Int.ofNat.inj e1
    rw [← e3, ← map_nat e2]
    exact q⟩
theorem rz_crowd {K : Kf} {σ : L2.St} {H : Hp} {E : XK} {ta : TA} {a : Addr} {z : Int} {ns : List Int} {i : Nat} (h : EvA ta σ H [.int z, .ref a]) (hS : SqL K H a (ns.map V.int)) (hb : AskBad z ns i) (hE : ∀ i, AskBad z ns i → ∀ H', Ex H H' → E (.ref (He.ga K (classAt i))) none H') : Rz (tCall (sp_crowd K) [] E ta) σ H :=
  rz_call h fun H1 e Q => ⟨a, z, ns, rfl, ex_l e hS, fun i hb H' e2 => hE i hb H' (e.trans e2), fun long ws e1 e2 hR => absurd hb (by rw [e1, e2]; exact ask_good hR i)⟩
theorem ok_crowd (D : Def K mg "crowd" s_crowd) (T : Txt mg) (O_asked : Own P w K mg base (L2.CX P w) 1 "asked" ["long", "wishes"] (sp_asked K)) : Own P w K mg base (L2.CX P w) 2 "crowd" ["long", "wishes"] (sp_crowd K) := by
  refine D.hot sc_crowd bw_crowd (fun vs H Q E h => ?_) (fun f cdv A outer s H vs Q E hr h => ?_)
  · obtain ⟨a, z, ns, rfl, _⟩ := h
    rfl
  · obtain ⟨a, z, ns, rfl, hS, hE, kG⟩ := h
    have hr_asked : Room 1 _ := hr.mono (by decide)
    refine ⟨_, (pss_cons (ps_expr (pe_own (E := E) O_asked hr_asked (passes_call (takes_of rfl rfl rfl rfl) (fun _ _ _ _ h => h)) (pa_cons (pv 0) (pa_cons (pv 1) pa_nil))))
        (pss_cons (ps_set (i := 2) sc_crowd.nd rfl (Or.inl rfl) pe_int)
        (pss_cons (ps_for (passes_of rfl) rfl (pi_revR (by rfl) T.reversed (prg_1 (by rfl) T.range (pv 0))) (pg_name (i := 3) sc_crowd.nd rfl (Or.inr rfl))
        (pss_cons (ps_set (i := 2) sc_crowd.nd rfl (Or.inl rfl) (pe_op op_add (pv 2) (pe_callB cr_len (by rfl) T.len PySem.boot_len (pa_cons (pe_lc (own := [("wish", 4)]) (g := gName 4) rfl sc_crowd.nd (pi_list (pv 1)) (blkOk_by (N := N_crowd) (sc := defScope s_crowd) (by decide +kernel)) (fun _ _ _ _ _ => pg_name (i := 4) sc_crowd.nd rfl (.inl rfl)) (fun _ _ _ _ _ => (pts_one (pt_cmpR op_eq (pv 4) (pv 3) (nomark _)))) (fun _ _ _ _ _ => (pv 4))) pa_nil))))
          (pss_one (ps_if (pt_cmpR op_gt (pv 2) (pe_op op_sub (pv 0) (pv 3)) (nomark _))
          (pss_one (ps_ret (pv 3)))
          pss_nil))))
        (pss_one (ps_ret pe_non))))), ?_⟩
    try dsimp only [cxOf]
    rcases ask_or z ns with ⟨ib, hb⟩ | ⟨long, ws, rfl, rfl, hR⟩
    · exact q_dropR (rz_asked (by walk_at "ea") hS hb hE)
    have kQ := kG long ws rfl rfl hR
    rw [← vn_ints] at hS
    obtain ⟨r1, r2, r3, r4⟩ := id hR
    refine q_drop (sv_asked (by walk_at "ea") hS hR) fun H1 e1 => ?_
    refine q_asg (by walk_at "ev") fun H2 e2 => ?_
    refine q_forRev (n := long) (by walk_at "ev") (by omega) (fun i σ' H' => ∃ o3, σ' = [some (.int (long : Int)), some (.ref a), some (.int ((cnt ws (long - i) : Nat) : Int)), o3, none] ∧ Ex H H' ∧ ∀ q, long - i ≤ q → q < long → cnt ws q ≤ long - q)
      (fun H3 e3 => ⟨none, by rw [Nat.sub_zero, cnt_top r4]; rfl, by walk_at "ex", fun q h1 h2 => by omega⟩) ?_ ?_
    · rintro i p σ' H' hi ⟨o3, rfl, eH, hq⟩
      have hS' : SqL K H' a (vn ws) := ex_l eH hS
      refine q_asg (ev_op (ev_var rfl) (ev_count (K := K) (ws := ws) (fun w => decide (w = p)) (ev_var rfl) hS' (by omega) (fun _ => rfl) (fun _ => rfl) fun w H3 e3 hm => et_is (et_test (ev_op (ev_var rfl) (ev_var rfl) (rv_eq rfl))) ?_) rv_I0) fun H4 e4 => ?_
      · exact decide_eq_decide.mpr ⟨fun h => Int.ofNat.inj (V.int.inj h), fun h => by rw [h]⟩
      have ec : ((cnt ws (long - i) : Nat) : Int) + ((ws.countP (fun w => decide (w = p)) : Nat) : Int) = ((cnt ws p : Nat) : Int) := by
        rw [cnt_succ ws p]
        have e1 : p + 1 = long - i := by omega
        rw [e1]
        unfold cAt
        rw [Int.natCast_add]
      rw [ec]
      refine s_when (by walk_at "et") (fun hb H5 e5 => ?_) (fun hb H5 e5 => ?_)
      · have hb2 := of_decide_eq_true hb
        refine s_ret (by walk_at "ev") fun H6 e6 => ?_
        have hc : CrowdIs long ws (some p) := ⟨by omega, by omega, fun q h1 h2 => hq q (by omega) h2⟩
        have := kQ H6 (by walk_at "ex")
        rw [(crowdL_is long ws).uniq hc] at this
        exact this
      · have hb2 := of_decide_eq_false hb
        refine ⟨some (.int (p : Int)), ?_, (eH.trans e4).trans e5, fun q h1 h2 => ?_⟩
        · have e1 : long - (i + 1) = p := by omega
          rw [e1]
          rfl
        · by_cases e : q = p
          · rw [e]
            omega
          · exact hq q (by omega) h2
    · rintro σ' H' ⟨o3, rfl, eH, hq⟩
      refine s_ret (by walk_at "ev") fun H6 e6 => ?_
      have hc : CrowdIs long ws none := fun p hp => hq p (by omega) hp
      have := kQ H6 (by walk_at "ex")
      rw [(crowdL_is long ws).uniq hc] at this
      exact this

abbrev s_shown : Stmt := top 14
abbrev N_shown : List Str := ["long", "wishes", "text", "wish"]
theorem sc_shown : FnScope N_shown ["long", "wishes"] (defScope s_shown) := ⟨rfl, rfl, rfl, by decide +kernel, rfl, by decide +kernel, by decide +kernel⟩
theorem bw_shown : BindsWell "shown" s_shown ["long", "wishes"] := fun _ _ _ _ _ _ us hl => match us, hl with | [_, _], _ => rfl

def sp_shown (K : Kf) : Sp := fun vs H Q E => ∃ (a : Addr) (z : Int) (ns : List Int), vs = [.int z, .ref a] ∧ SqL K H a (ns.map V.int) ∧ (∀ i, AskBad z ns i → ∀ H', Ex H H' → E (.ref (He.ga K (classAt i))) none H') ∧ (∀ long ws, z = ((long : Nat) : Int) → ns = ws.map Int.ofNat → Row long ws → RetV (.str (rowText long ws)) H Q)
theorem ok_shown (D : Def K mg "shown" s_shown) (T : Txt mg) (O_asked : Own P w K mg base (L2.CX P w) 1 "asked" ["long", "wishes"] (sp_asked K)) : Own P w K mg base (L2.CX P w) 2 "shown" ["long", "wishes"] (sp_shown K) := by
  refine D.hot sc_shown bw_shown (fun vs H Q E h => ?_) (fun f cdv A outer s H vs Q E hr h => ?_)
  · obtain ⟨a, z, ns, rfl, _⟩ := h
    rfl
  · obtain ⟨a, z, ns, rfl, hS, hE, kG⟩ := h
    have hr_asked : Room 1 _ := hr.mono (by decide)
    refine ⟨_, (pss_cons (ps_expr (pe_own (E := E) O_asked hr_asked (passes_call (takes_of rfl rfl rfl rfl) (fun _ _ _ _ h => h)) (pa_cons (pv 0) (pa_cons (pv 1) pa_nil))))
        (pss_cons (ps_set (i := 2) sc_shown.nd rfl (Or.inl rfl) (pe_op op_add_str (pe_callTy call_str_int (by rfl) T.str (by decide +kernel) (pa_cons (pv 0) pa_nil)) pe_str))
        (pss_cons (ps_for (passes_of rfl) rfl (pi_list (pv 1)) (pg_name (i := 3) sc_shown.nd rfl (Or.inl rfl))
        (pss_one (ps_set (i := 2) sc_shown.nd rfl (Or.inl rfl) (pe_op op_add_str (pe_op op_add_str (pv 2) pe_str) (pe_callTy call_str_int (by rfl) T.str (by decide +kernel) (pa_cons (pv 3) pa_nil))))))
        (pss_one (ps_ret (pv 2)))))), ?_⟩
    try dsimp only [cxOf]
    rcases ask_or z ns with ⟨ib, hb⟩ | ⟨long, ws, rfl, rfl, hR⟩
    · exact q_dropR (rz_asked (by walk_at "ea") hS hb hE)
    have kQ := kG long ws rfl rfl hR
    rw [← vn_ints] at hS
    obtain ⟨r1, r2, r3, r4⟩ := id hR
    refine q_drop (sv_asked (by walk_at "ea") hS hR) fun H1 e1 => ?_
    have hh := headS_len (long := long) (by omega)
    have hn := numS_len (n := long) (by omega)
    refine q_asg (v := .str (headS long)) (ev_op (ev_str (n := long) (ev_var rfl) (by omega)) ev_c (rv_addS (by rw [one_len rfl]; omega))) fun H2 e2 => ?_
    have eH2 : Ex H H2 := e1.trans e2
    refine q_forLn (K := K) (a := a) (xs := vn ws) (by walk_at "ev") (ex_l eH2 hS) (fun i σ' H' => ∃ o3, σ' = [some (.int (long : Int)), some (.ref a), some (.str (rowTo (headS long) (ws.take i))), o3] ∧ Ex H H') (fun H3 e3 => ⟨none, rfl, eH2.trans e3⟩) (fun i σ' H' _ p => ?_) ?_ ?_
    · obtain ⟨_, _, eH⟩ := p
      exact ex_l eH hS
    · rintro i x σ' H' hx ⟨o3, rfl, eH⟩
      obtain ⟨w, rfl, hw, hi, hm⟩ := vn_at hx
      have hwl := r4 w hm
      have hl := rowTo_len (t0 := headS long) (ws := ws.take i) fun x hx => by have := r4 x (List.mem_of_mem_take hx); omega
      have hl2 : (ws.take i).length ≤ ws.length := List.length_take_le' _ _
      have hn2 := numS_len (n := w) (by omega)
      refine s_asg (v := .str (rowTo (headS long) (ws.take i) ++ Str.ofString " " ++ numS w)) (ev_op (ev_op (ev_var rfl) ev_c (rv_addS (by rw [one_len rfl]; omega))) (ev_str (n := w) (ev_var rfl) (by omega)) (rv_addS (by rw [Str.length_append, one_len rfl]; omega))) fun H3 e3 => ?_
      exact ⟨_, by rw [rowTo_take hw]; rfl, eH.trans e3⟩
    · rintro σ' H' ⟨o3, rfl, eH⟩
      rw [vn_len, List.take_length]
      exact s_ret (by walk_at "ev") fun H3 e3 => kQ H3 (eH.trans e3)

abbrev s_l_word_of : Stmt := top 17
abbrev N_l_word_of : List Str := ["e", "kinds"]
theorem sc_l_word_of : FnScope N_l_word_of ["e"] (defScope s_l_word_of) := ⟨rfl, rfl, rfl, by decide +kernel, rfl, by decide +kernel, by decide +kernel⟩
theorem bw_l_word_of : BindsWell "_law_word_of" s_l_word_of ["e"] := fun _ _ _ _ _ _ us hl => match us, hl with | [_], _ => rfl

theorem ok_l_word_of (D : Def K mg "_law_word_of" s_l_word_of) (T : Txt mg) (gNoQuay : mg "NoQuay" = some (.ref (He.ga K "NoQuay"))) (gNoTree : mg "NoTree" = some (.ref (He.ga K "NoTree"))) (gNoOutcome : mg "NoOutcome" = some (.ref (He.ga K "NoOutcome"))) (gNoRow : mg "NoRow" = some (.ref (He.ga K "NoRow"))) (gNoRank : mg "NoRank" = some (.ref (He.ga K "NoRank"))) (gNoNote : mg "NoNote" = some (.ref (He.ga K "NoNote"))) : OwnP P w K mg base 1 "_law_word_of" ["e"] (sp_l_word_of K) := by
  refine D.pinned sc_l_word_of bw_l_word_of (fun p vs H Q E h => ?_) (fun p f cdv A outer s H vs Q E hr h => ?_)
  · obtain ⟨_, _, rfl, _⟩ := h
    rfl
  · obtain ⟨D0, i, rfl, hz, hf, hi, hw, kQ⟩ := h
    refine ⟨_, (pss_cons (ps_set (i := 1) sc_l_word_of.nd rfl (Or.inl rfl) (pe_lst (pa_cons (pe_callB (call_isP (p := p) List.mem_cons_self hw.c hz hf) (by rfl) T.isinstance (by decide +kernel) (pa_cons (pv 0) (pa_cons (pe_glob (v := .ref _) rfl gNoQuay rfl) pa_nil))) (pa_cons (pe_callB (call_isP (p := p) List.mem_cons_self hw.c hz hf) (by rfl) T.isinstance (by decide +kernel) (pa_cons (pv 0) (pa_cons (pe_glob (v := .ref _) rfl gNoRow rfl) pa_nil))) (pa_cons (pe_callB (call_isP (p := p) List.mem_cons_self hw.c hz hf) (by rfl) T.isinstance (by decide +kernel) (pa_cons (pv 0) (pa_cons (pe_glob (v := .ref _) rfl gNoOutcome rfl) pa_nil))) (pa_cons (pe_callB (call_isP (p := p) List.mem_cons_self hw.c hz hf) (by rfl) T.isinstance (by decide +kernel) (pa_cons (pv 0) (pa_cons (pe_glob (v := .ref _) rfl gNoTree rfl) pa_nil))) pa_nil))))))
        (pss_cons (ps_set (i := 1) sc_l_word_of.nd rfl (Or.inl rfl) (pe_op op_cat (pv 1) (pe_lst (pa_cons (pe_callB (call_isP (p := p) List.mem_cons_self hw.c hz hf) (by rfl) T.isinstance (by decide +kernel) (pa_cons (pv 0) (pa_cons (pe_glob (v := .ref _) rfl gNoRank rfl) pa_nil))) (pa_cons (pe_callB (call_isP (p := p) List.mem_cons_self hw.c hz hf) (by rfl) T.isinstance (by decide +kernel) (pa_cons (pv 0) (pa_cons (pe_glob (v := .ref _) rfl gNoNote rfl) pa_nil))) pa_nil)))))
        (pss_cons (ps_if (PW.pt (pw_or (pt_cmpR op_ne (pe_bm PySem.F.plainAttrs_list PySem.F.slot_list_count PySem.F.type_list_count mt_cntB (pv 1) (pa_cons pe_bl pa_nil)) pe_int (nomark _)) (pw_or1 (pt_not (pt_val (pe_callB (call_isP (p := p) List.mem_cons_self hw.c hz hf) (by rfl) T.isinstance (by decide +kernel) (pa_cons (pv 0) (pa_cons (pe_bltn (v := .ty "ValueError") (by rfl) T.ValueError (by decide +kernel) rfl) pa_nil))))))))
        (pss_one (ps_ret pe_str))
        pss_nil)
        (pss_one (ps_ret (pe_ix ix_list (pe_lst (pa_cons pe_str (pa_cons pe_str (pa_cons pe_str (pa_cons pe_str (pa_cons pe_str (pa_cons pe_str pa_nil))))))) (pe_bm PySem.F.plainAttrs_list PySem.F.slot_list_index PySem.F.type_list_index mt_index (pv 1) (pa_cons pe_bl pa_nil)) (fun _ _ => rfl))))))), ?_⟩
    try dsimp only [cxOf]
    refine q_asgL (xs := [.bl (decide (0 = i)), .bl (decide (1 = i)), .bl (decide (2 = i)), .bl (decide (3 = i))]) (el_lst (ea_cons (ev_isE (ev_var rfl) ev_c (hw.kit 0 (by decide))) (ea_cons (ev_isE (ev_var rfl) ev_c (hw.kit 1 (by decide))) (ea_cons (ev_isE (ev_var rfl) ev_c (hw.kit 2 (by decide))) (ea_cons (ev_isE (ev_var rfl) ev_c (hw.kit 3 (by decide))) ea_nil)))) (Nat.le_of_ble_eq_true rfl)) fun kp H1 nkp e1 hkp => ?_
    refine q_asgL (xs := (marks i).map V.bl) (el_is (el_cat (ev_var rfl) hkp (el_lst (ea_cons (ev_isE (ev_var rfl) ev_c (hw.kit 4 (by decide))) (ea_cons (ev_isE (ev_var rfl) ev_c (hw.kit 5 (by decide))) ea_nil)) (Nat.le_of_ble_eq_true rfl)) (Nat.le_of_ble_eq_true rfl)) rfl) fun lp H2 nlp e2 hlp => ?_
    have hc : (marks i).count true = 1 := by
      match i, hi with
      | 0, _ => rfl
      | 1, _ => rfl
      | 2, _ => rfl
      | 3, _ => rfl
      | 4, _ => rfl
      | 5, _ => rfl
    refine q_when (b := false) (et_is (et_or (et_test (ev_op (ev_cntB (K := K) (ev_var rfl) ev_c hlp) ev_c (rv_ne rfl))) fun _ => et_not (et_B (ev_isEV (ev_var rfl) hw.ve))) ?_) (fun h => by cases h) fun _ H3 e3 => ?_
    · rw [hc, decide_eq_true (show V.int ((1 : Nat) : Int) = V.int 1 from rfl)]
      rfl
    refine s_ret (v := .str (wordAt i)) (ev_ixNL (i := (i : Int)) (xs := [.str "quay", .str "row", .str "outcome", .str "tree", .str "rank", .str "note"]) (el_lst (ea_cons ev_c (ea_cons ev_c (ea_cons ev_c (ea_cons ev_c (ea_cons ev_c (ea_cons ev_c ea_nil)))))) (Nat.le_of_ble_eq_true rfl)) (fun H4 e4 => ev_idxB (K := K) hi (ev_var rfl) ev_c (e4 _ _ (e3 _ _ hlp))) (atI_nat ?_)) fun H4 e4 => kQ H4 (((e1.trans e2).trans e3).trans e4)
    match i, hi with
    | 0, _ => rfl
    | 1, _ => rfl
    | 2, _ => rfl
    | 3, _ => rfl
    | 4, _ => rfl
    | 5, _ => rfl

abbrev s_l_tried : Stmt := top 18
abbrev N_l_tried : List Str := ["way", "long", "wishes", "e"]
theorem sc_l_tried : FnScope N_l_tried ["way", "long", "wishes"] (defScope s_l_tried) := ⟨rfl, rfl, rfl, by decide +kernel, rfl, by decide +kernel, by decide +kernel⟩
theorem bw_l_tried : BindsWell "_law_tried" s_l_tried ["way", "long", "wishes"] := fun _ _ _ _ _ _ us hl => match us, hl with | [_, _, _], _ => rfl

def sp_l_tried (K : Kf) : Sp := fun vs H Q _ => ∃ (a : Addr) (way z : Int) (ns : List Int), vs = [.int way, .int z, .ref a] ∧ SqL K H a (ns.map V.int) ∧ (∀ i, AskBad z ns i → RetV (.str (wordAt i)) H Q) ∧ (∀ (long : Nat) ws, z = (long : Int) → ns = ws.map Int.ofNat → Row long ws → RetV (.str "done") H Q)
theorem tried_fresh {K : Kf} {σ : L2.St} {H : Hp} {E : XK} {tw tz ta : TE} {way z : Int} {ns : List Int} {w : Str} (hw : Ev tw σ H (.int way)) (hz : Ev tz σ H (.int z)) (h : EvL ta σ H (ns.map V.int)) (h1 : ∀ i, AskBad z ns i → w = wordAt i) (h2 : ∀ (long : Nat) ws, z = (long : Int) → ns = ws.map Int.ofNat → Row long ws → w = "done") : Ev (tCall (sp_l_tried K) [] E (tCons tw (tCons tz (tCons ta tNil)))) σ H (.str w) := fun H1 e Q q =>
  hw H1 e _ fun H2 e2 => hz H2 (e.trans e2) _ fun H2' e2' => h H2' ((e.trans e2).trans e2') _ fun p H3 np e3 hp => ⟨p, way, z, ns, rfl, sq_of hp, fun i hb H4 e4 => by rw [← h1 i hb]; exact q H4 (((e2.trans e2').trans e3).trans e4), fun l ws e1 e5 hR H4 e4 => by rw [← h2 l ws e1 e5 hR]; exact q H4 (((e2.trans e2').trans e3).trans e4)⟩
theorem ok_l_tried (D : Def K mg "_law_tried" s_l_tried) (T : Txt mg) (gMoorError : mg "MoorError" = some (.ref (He.ga K "MoorError"))) (words : Words K) (O_moored : Own P w K mg base (L2.CX P w) 2 "moored" ["long", "wishes"] (sp_moored K)) (O_crowd : Own P w K mg base (L2.CX P w) 2 "crowd" ["long", "wishes"] (sp_crowd K)) (O_shown : Own P w K mg base (L2.CX P w) 2 "shown" ["long", "wishes"] (sp_shown K)) (O_l_word_of : OwnP P w K mg base 1 "_law_word_of" ["e"] (sp_l_word_of K)) : Own P w K mg base CX0 3 "_law_tried" ["way", "long", "wishes"] (sp_l_tried K) := by
  refine D.calm sc_l_tried bw_l_tried (fun vs H Q E h => ?_) (fun f cdv A outer s H vs Q E hr h => ?_)
  · obtain ⟨a, way, z, ns, rfl, _⟩ := h
    rfl
  · obtain ⟨a, way, z, ns, rfl, hS, k1, k2⟩ := h
    have hr_moored : Room 2 _ := hr.mono (by decide)
    have hr_crowd : Room 2 _ := hr.mono (by decide)
    have hr_shown : Room 2 _ := hr.mono (by decide)
    have hr_l_word_of : Room 1 _ := hr.mono (by decide)
    refine ⟨_, (pss_cons (ps_try_as (i := 3) rfl rfl sc_l_tried.nd rfl rfl ⟨rfl, by decide, Or.inl gMoorError⟩ takes0 (fun W pn xe tk xp => (pss_one (ps_if (pt_cmpR op_eq (pv 0) pe_int (nomark _))
          (pss_one (ps_expr (pe_ownS O_moored hr_moored (fun σ => passAt tk σ) (pa_cons (pv 1) (pa_cons (pv 2) pa_nil)))))
          (pss_one (ps_if (pt_cmpR op_eq (pv 0) pe_int (nomark _))
            (pss_one (ps_expr (pe_ownS O_crowd hr_crowd (fun σ => passAt tk σ) (pa_cons (pv 1) (pa_cons (pv 2) pa_nil)))))
            (pss_one (ps_expr (pe_ownS O_shown hr_shown (fun σ => passAt tk σ) (pa_cons (pv 1) (pa_cons (pv 2) pa_nil)))))))))) (fun a oe cls d pn hz hf => (pss_one (ps_ret (pe_word O_l_word_of hr_l_word_of hz hf (pv 3))))))
        (pss_one (ps_ret pe_str))), ?_⟩
    try dsimp only [cxOf]
    have kb : ∀ (D : Ends) (_ : D.rt = Q) (Wout : WX) (H1 : Hp), Ex H H1 → ∀ i, AskBad z ns i → ∀ H', Ex H1 H' → wAs K (.ref (He.ga K "MoorError")) 3 (fun a cls d => tRet (tWord K a cls d (tVar 3))) Wout D (.ref (He.ga K (classAt i))) none ([some (.int way), some (.int z), some (.ref a), none] : L2.St) H' := fun D hD Wout H1 e1 i hb H' e2 =>
      word_wish (words.w i hb.six) hb.six (by show 3 < 4; decide) fun H3 e3 => by
        rw [hD]
        exact k1 i hb H3 ((e1.trans e2).trans e3)
    refine s_if (et_test (ev_op (ev_var rfl) ev_c (rv_eq rfl))) (fun _ H1 e1 => ?_) (fun _ H1 e1 => ?_)
    · exact s_dropS (by walk_at "ea") fun H2 e2 => ⟨a, z, ns, rfl, ex_l (e1.trans e2) hS, fun i hb H' e' => kb _ rfl _ H2 (e1.trans e2) i hb H' e', fun l ws a1 a2 hR p H' np e' hp => k2 l ws a1 a2 hR H' ((e1.trans e2).trans e')⟩
    refine s_if (et_test (ev_op (ev_var rfl) ev_c (rv_eq rfl))) (fun _ H2 e2 => ?_) (fun _ H2 e2 => ?_)
    · exact s_dropS (by walk_at "ea") fun H3 e3 => ⟨a, z, ns, rfl, ex_l ((e1.trans e2).trans e3) hS, fun i hb H' e' => kb _ rfl _ H3 ((e1.trans e2).trans e3) i hb H' e', fun l ws a1 a2 hR H' e' => k2 l ws a1 a2 hR H' (((e1.trans e2).trans e3).trans e')⟩
    · exact s_dropS (by walk_at "ea") fun H3 e3 => ⟨a, z, ns, rfl, ex_l ((e1.trans e2).trans e3) hS, fun i hb H' e' => kb _ rfl _ H3 ((e1.trans e2).trans e3) i hb H' e', fun l ws a1 a2 hR H' e' => k2 l ws a1 a2 hR H' (((e1.trans e2).trans e3).trans e')⟩

abbrev s_law : Stmt := top 19
abbrev N_law : List Str := ["script", "far", "long", "wishes", "due", "way", "asked_by", "k"]
theorem sc_law : FnScope N_law ["script"] (defScope s_law) := ⟨rfl, rfl, rfl, by decide +kernel, rfl, by decide +kernel, by decide +kernel⟩
theorem bw_law : BindsWell "law" s_law ["script"] := fun _ _ _ _ _ _ us hl => match us, hl with | [_], _ => rfl

def Due (z : Int) (zs : List Int) (w : Str) : Prop := (∀ i, AskBad z zs i → w = wordAt i) ∧ ∀ (long : Nat) ws, z = (long : Int) → zs = ws.map Int.ofNat → Row long ws → w = "done"
theorem due_good {long : Nat} {ws : List Nat} (h : Row long ws) : Due (long : Int) (ws.map Int.ofNat) "done" := ⟨fun i hb => absurd hb (ask_good h i), fun _ _ _ _ _ => rfl⟩
theorem due_row {z : Int} {zs : List Int} (h1 : 1 ≤ z) (h2 : z ≤ 40) (h : z < (zs.length : Int) ∨ ∃ w ∈ zs, w < 0 ∨ z ≤ w) : Due z zs "row" := by
  have hb : AskBad z zs 1 := .inr ⟨rfl, h1, h2, h⟩
  refine ⟨fun i hi => ?_, fun long ws e1 e2 hR => absurd hb (by rw [e1, e2]; exact ask_good hR 1)⟩
  rcases hi with ⟨_, g⟩ | ⟨rfl, _⟩
  · omega
  · rfl
theorem due_quay {z : Int} {zs : List Int} (h : z < 1 ∨ 40 < z) : Due z zs "quay" := by
  refine ⟨fun i hi => ?_, fun long ws e1 e2 hR => absurd (show AskBad z zs 0 from .inl ⟨rfl, h⟩) (by rw [e1, e2]; exact ask_good hR 0)⟩
  rcases hi with ⟨rfl, _⟩ | ⟨_, g1, g2, _⟩
  · rfl
  · omega
theorem ok_law {f : Addr} {fd : FuncData} (F : FunD K "law" "law" (defArgs s_law) (defBody s_law) (defScope s_law) [] [] f fd) (T : Txt mg) (O_l_cell_at : Own P w K mg base CX0 1 "_law_cell_at" ["script", "k"] (sp_l_cell_at K)) (O_l_tried : Own P w K mg base CX0 3 "_law_tried" ["way", "long", "wishes"] (sp_l_tried K)) : FnOk P w K mg base CX0 4 f fd ["script"] (spLaw K) := by
  refine F.ok sc_law (fun vs H Q E h => ?_) (fun cdv A outer s H vs Q E hr h => ?_)
  · obtain ⟨a, ns, rfl, _⟩ := h
    rfl
  · obtain ⟨a, ns, rfl, hS, hlen, kQ⟩ := h
    have hr_l_cell_at : Room 1 _ := hr.mono (by decide)
    have hr_l_tried : Room 3 _ := hr.mono (by decide)
    refine ⟨_, PSs.nox (pss_cons (ps_set (i := 1) sc_law.nd rfl (Or.inl rfl) (pe_op op_mod (pe_own O_l_cell_at hr_l_cell_at pass0 (pa_cons (pv 0) (pa_cons pe_int pa_nil))) (pe_op op_pow pe_int pe_int)))
        (pss_cons (ps_set (i := 2) sc_law.nd rfl (Or.inr rfl) (pe_op op_add pe_int (pe_op op_mod (pe_own O_l_cell_at hr_l_cell_at pass0 (pa_cons (pv 0) (pa_cons pe_int pa_nil))) pe_int)))
        (pss_cons (ps_setLc (i := 3) (own := [("k", 7)]) (g := gName 7) rfl sc_law.nd rfl rfl (sw_true rfl rfl rfl (by decide +kernel)) (pi_range1 (by rfl) T.range (pa_cons (pe_callB (cr_min2 rfl) (by rfl) T.min (by decide +kernel) (pa_cons (pv 2) (pa_cons (pe_op op_mod (pe_own O_l_cell_at hr_l_cell_at pass0 (pa_cons (pv 0) (pa_cons pe_int pa_nil))) pe_int) pa_nil))) pa_nil)) (blkOk_by (N := N_law) (sc := defScope s_law) (by decide +kernel)) (fun _ _ _ _ _ => pg_name (i := 7) sc_law.nd rfl (.inl rfl)) (fun _ _ _ _ _ => pts_nil) (fun _ _ _ _ _ => (pe_op op_mod (pe_own O_l_cell_at hr_l_cell_at pass0 (pa_cons (pv 0) (pa_cons (pe_op op_add pe_int (pv 7)) pa_nil))) (pv 2))))
        (pss_cons (ps_set (i := 4) sc_law.nd rfl (Or.inl rfl) pe_str)
        (pss_cons (ps_set (i := 5) sc_law.nd rfl (Or.inl rfl) (pe_op op_mod (pe_own O_l_cell_at hr_l_cell_at pass0 (pa_cons (pv 0) (pa_cons pe_int pa_nil))) pe_int))
        (pss_cons (ps_if (pt_cmpR op_eq (pv 5) pe_int (nomark _))
        (pss_cons (ps_setLc (i := 3) (own := [("k", 7)]) (g := gName 7) rfl sc_law.nd rfl rfl (sw_true rfl rfl rfl (by decide +kernel)) (pi_range1 (by rfl) T.range (pa_cons (pe_op op_add (pe_op op_add (pv 2) pe_int) (pe_op op_mod (pe_own O_l_cell_at hr_l_cell_at pass0 (pa_cons (pv 0) (pa_cons pe_int pa_nil))) pe_int)) pa_nil)) (blkOk_by (N := N_law) (sc := defScope s_law) (by decide +kernel)) (fun _ _ _ _ _ => pg_name (i := 7) sc_law.nd rfl (.inl rfl)) (fun _ _ _ _ _ => pts_nil) (fun _ _ _ _ _ => pe_int))
          (pss_one (ps_set (i := 4) sc_law.nd rfl (Or.inl rfl) pe_str)))
        pss_nil)
        (pss_cons (ps_if (PW.pt (pw_and (pt_cmpR op_gt (pv 5) pe_int (nomark _)) (pw_and (pt_cmpR op_lt (pv 5) pe_int (nomark _)) (pw_and1 (pt_cmpR op_gt (pe_callB cr_len (by rfl) T.len PySem.boot_len (pa_cons (pv 3) pa_nil)) pe_int (nomark _))))))
        (pss_cons (ps_asg (pe_ix ix_list (pe_lst (pa_cons (pe_op op_sub (pe_un un_neg pe_int) (pv 1)) (pa_cons (pv 2) (pa_cons (pe_op op_add (pv 2) (pv 1)) pa_nil)))) (pe_op op_sub (pv 5) pe_int) (fun _ _ => rfl)) (pg_sub (pv 3) (pe_op op_mod (pe_own O_l_cell_at hr_l_cell_at pass0 (pa_cons (pv 0) (pa_cons pe_int pa_nil))) (pe_callB cr_len (by rfl) T.len PySem.boot_len (pa_cons (pv 3) pa_nil))) set_list))
          (pss_one (ps_set (i := 4) sc_law.nd rfl (Or.inl rfl) pe_str)))
        pss_nil)
        (pss_cons (ps_if (pt_cmpR op_eq (pe_op op_mod (pe_own O_l_cell_at hr_l_cell_at pass0 (pa_cons (pv 0) (pa_cons pe_int pa_nil))) pe_int) pe_int (nomark _))
        (pss_cons (ps_set (i := 2) sc_law.nd rfl (Or.inr rfl) (pe_ix ix_list (pe_lst (pa_cons pe_int (pa_cons (pe_op op_sub pe_int (pv 1)) (pa_cons pe_int (pa_cons (pe_op op_add pe_int (pv 1)) pa_nil))))) (pe_op op_mod (pe_op op_fdiv (pe_own O_l_cell_at hr_l_cell_at pass0 (pa_cons (pv 0) (pa_cons pe_int pa_nil))) pe_int) pe_int) (fun _ _ => rfl)))
          (pss_one (ps_set (i := 4) sc_law.nd rfl (Or.inl rfl) pe_str)))
        pss_nil)
        (pss_cons (ps_for PassesOwn.never rfl (pi_range1 (by rfl) T.range (pa_cons pe_int pa_nil)) (pg_name (i := 6) sc_law.nd rfl (Or.inl rfl))
        (pss_one (ps_if (pt_cmpR op_ne (pe_own O_l_tried hr_l_tried pass0 (pa_cons (pv 6) (pa_cons (pv 2) (pa_cons (pe_callTy cr_list (by rfl) T.list (by decide +kernel) (pa_cons (pv 3) pa_nil)) pa_nil)))) (pv 4) (nomark _))
          (pss_one (ps_ret pe_bl))
          pss_nil)))
        (pss_one (ps_ret pe_bl))))))))))), ?_⟩
    try dsimp only [cxOf]
    refine q_asg (ev_op (sv_cell (by walk_at "ea") hS (by omega)) (ev_op ev_c ev_c (rv_I (C := CPow) ⟨by decide, by decide, by decide⟩)) (rv_I (by show (0 : Int) < 10 ^ (30 : Int).toNat; decide))) fun H1 e1 => ?_
    have hfar : 0 ≤ cellAt ns 3 % 10 ^ (30 : Int).toNat := Int.emod_nonneg _ (by decide)
    generalize cellAt ns 3 % 10 ^ (30 : Int).toNat = far at hfar
    have hS1 := ex_l e1 hS
    obtain ⟨n, en0, h1, h8⟩ : ∃ n : Nat, 1 + cellAt ns 0 % 40 = (n : Int) ∧ 1 ≤ n ∧ n ≤ 40 := ⟨(1 + cellAt ns 0 % 40).toNat, by omega, by omega, by omega⟩
    refine q_asg (v := .int (n : Int)) (ev_is (by walk_at "ev") (congrArg V.int en0)) fun H2 e2 => ?_
    have hS2 := ex_l e2 hS1
    obtain ⟨m, hm, hml⟩ : ∃ m : Nat, (if cellAt ns 1 % 41 < (n : Int) then cellAt ns 1 % 41 else (n : Int)) = (m : Int) ∧ m ≤ n := by
      by_cases c : cellAt ns 1 % 41 < (n : Int)
      · exact ⟨(cellAt ns 1 % 41).toNat, by rw [if_pos c]; omega, by omega⟩
      · exact ⟨n, by rw [if_neg c], Nat.le_refl _⟩
    refine q_asgL (xs := ((List.range m).map fun (k : Nat) => cellAt ns (6 + (k : Int)) % (n : Int)).map V.int) (el_is (el_lcR1 (n := (m : Int)) (fun _ => true) (fun k => .int (cellAt ns (6 + (k : Int)) % (n : Int))) (ea_cons (ev_is (ev_min2 (ev_var rfl) (ev_op (sv_cell (by walk_at "ea") hS2 (by omega)) ev_c (rv_I (by walk_at "side")))) (congrArg V.int hm)) ea_nil) (by omega) (fun _ => rfl) (fun _ _ _ _ => et_yes) (fun k H3 e3 hk _ => ev_op (sv_cell (by walk_at "ea") (ex_l e3 hS2) (by omega)) (ev_var rfl) (rv_I (by show (0 : Int) < _; omega)))) (by rw [given_all (fun _ => rfl), Int.toNat_natCast, List.map_map]; rfl)) fun wp H3 nwp e3 hwp => ?_
    have hzl : ((List.range m).map fun (k : Nat) => cellAt ns (6 + (k : Int)) % (n : Int)).length = m := by rw [List.length_map, List.length_range]
    have hgood : Due (n : Int) ((List.range m).map fun (k : Nat) => cellAt ns (6 + (k : Int)) % (n : Int)) "done" := by
      have hb : ∀ w ∈ (List.range m).map fun (k : Nat) => cellAt ns (6 + (k : Int)) % (n : Int), 0 ≤ w ∧ w < (n : Int) := fun w hw => by
        obtain ⟨k, _, rfl⟩ := List.mem_map.mp hw
        exact ⟨Int.emod_nonneg _ (by omega), Int.emod_lt_of_pos _ (by omega)⟩
      obtain ⟨ws, hws⟩ := nat_list fun w hw => (hb w hw).1
      rw [hws] at hb hzl ⊢
      rw [List.length_map] at hzl
      exact due_good ⟨h1, h8, by omega, fun w hw => by have := (hb (w : Int) (List.mem_map.mpr ⟨w, hw, rfl⟩)).2; omega⟩
    generalize ((List.range m).map fun (k : Nat) => cellAt ns (6 + (k : Int)) % (n : Int)) = zs at hwp hzl hgood
    have eH3 : Ex H H3 := (e1.trans e2).trans e3
    have nwp0 : H wp = none := fresh_back (e1.trans e2) nwp
    refine q_asg ev_c fun H4 e4 => ?_
    have hS4 := ex_l (eH3.trans e4) hS
    refine q_asg (by walk_at "ev") fun H5 e5 => ?_
    have eH5 : Ex H H5 := (eH3.trans e4).trans e5
    have hw6 : 0 ≤ cellAt ns 2 % 6 ∧ cellAt ns 2 % 6 < 6 := by omega
    generalize cellAt ns 2 % 6 = way at hw6
    refine q_whenN (fun σ' H' => ∃ wp ys w, σ' = [some (.ref a), some (.int far), some (.int (n : Int)), some (.ref wp), some (.str w), some (.int way), none, none] ∧ Ex H H' ∧ H wp = none ∧ H' wp = some (.lst (ys.map V.int)) ∧ Due (n : Int) ys w) (et_test (ev_op (ev_var rfl) ev_c (rv_eq rfl))) ?_ (fun hb H6 e6 hk => ?_) (fun hb H6 e6 => ⟨wp, zs, "done", rfl, eH5.trans e6, nwp0, e6 _ _ (e5 _ _ (e4 _ _ hwp)), hgood⟩)
    · rintro σ' H6 ⟨wp, ys, w, rfl, eH6, nwp, hys, hdue⟩
      refine q_whenN (fun σ' H' => ∃ wp ys w, σ' = [some (.ref a), some (.int far), some (.int (n : Int)), some (.ref wp), some (.str w), some (.int way), none, none] ∧ Ex H H' ∧ H wp = none ∧ H' wp = some (.lst (ys.map V.int)) ∧ Due (n : Int) ys w) (b := decide (1 < way) && (decide (way < 5) && decide (0 < ys.length))) (et_and (et_test (by walk_at "ev")) fun _ => et_and (et_test (by walk_at "ev")) fun _ => et_is (et_test (ev_op (ev_is (ev_len (K := K) (ev_var rfl) (sq_of hys)) (by rw [List.length_map])) ev_c rv_I0)) (decide_eq_decide.mpr (by omega))) ?_ (fun hb H7 e7 hk => ?_) (fun hb H7 e7 => ⟨wp, ys, w, rfl, eH6.trans e7, nwp, e7 _ _ hys, hdue⟩)
      · rintro σ' H7 ⟨wp, ys, w, rfl, eH7, nwp, hys, hdue⟩
        have hS7 := ex_l eH7 hS
        refine q_whenN (fun σ' H' => ∃ z w, σ' = [some (.ref a), some (.int far), some (.int z), some (.ref wp), some (.str w), some (.int way), none, none] ∧ H' wp = some (.lst (ys.map V.int)) ∧ Due z ys w) (et_test (ev_op (ev_op (sv_cell (by walk_at "ea") hS7 (by omega)) ev_c (rv_I (by walk_at "side"))) ev_c (rv_eq rfl))) ?_ (fun hb H8 e8 hk => ?_) (fun hb H8 e8 => ⟨n, w, rfl, e8 _ _ hys, hdue⟩)
        · rintro σ' H8 ⟨z, w, rfl, hy8, hd8⟩
          refine q_forR1 (n := 3) (by walk_at "ea") (by omega) (fun i σ' H' => ∃ o6, σ' = [some (.ref a), some (.int far), some (.int z), some (.ref wp), some (.str w), some (.int way), o6, none] ∧ H' wp = some (.lst (ys.map V.int))) (fun H9 e9 => ⟨none, rfl, e9 _ _ hy8⟩) ?_ ?_
          · rintro i σ' H9 hi ⟨o6, rfl, hy9⟩
            refine s_when (b := false) (et_is (et_test (ev_op (tried_fresh (K := K) (way := (i : Int)) (z := z) (ns := ys) (w := w) (ev_var rfl) (ev_var rfl) (el_list (ev_var rfl) (sq_of hy9)) hd8.1 hd8.2) (ev_var rfl) (rv_ne rfl))) (by rw [decide_eq_true rfl]; rfl)) (fun h => by cases h) fun _ H10 e10 => ⟨_, rfl, e10 _ _ hy9⟩
          · rintro σ' H9 ⟨o6, rfl, hy9⟩
            exact s_ret (by walk_at "ev") fun H10 e10 => kQ H10
        · have hS8 := ex_l e8 hS7
          obtain ⟨z, hat, hz⟩ : ∃ z : Int, atI [V.int 0, V.int (0 - far), V.int 41, V.int (41 + far)] (cellAt ns 5 / 3 % 4) = some (.int z) ∧ (z < 1 ∨ 40 < z) := by
            have h4 : cellAt ns 5 / 3 % 4 = 0 ∨ cellAt ns 5 / 3 % 4 = 1 ∨ cellAt ns 5 / 3 % 4 = 2 ∨ cellAt ns 5 / 3 % 4 = 3 := by omega
            rcases h4 with h | h | h | h
            · rw [h]
              exact ⟨_, rfl, .inl (by omega)⟩
            · rw [h]
              exact ⟨_, rfl, .inl (by omega)⟩
            · rw [h]
              exact ⟨_, rfl, .inr (by omega)⟩
            · rw [h]
              exact ⟨_, rfl, .inr (by omega)⟩
          refine q_asg (v := .int z) (ev_ixNL (i := cellAt ns 5 / 3 % 4) (el_lst (ea_cons ev_c (ea_cons (ev_op ev_c (ev_var rfl) rv_I0) (ea_cons ev_c (ea_cons (ev_op ev_c (ev_var rfl) rv_I0) ea_nil)))) (Nat.le_of_ble_eq_true rfl)) (fun H9 e9 => ev_op (ev_op (sv_cell (by walk_at "ea") (ex_l e9 hS8) (by omega)) ev_c (rv_I (by walk_at "side"))) ev_c (rv_I (by walk_at "side"))) hat) fun H9 e9 => ?_
          exact s_asg ev_c fun H10 e10 => hk _ _ ⟨z, "quay", rfl, e10 _ _ (e9 _ _ (e8 _ _ hys)), due_quay hz⟩
      · rw [Bool.and_eq_true, Bool.and_eq_true, decide_eq_true_eq, decide_eq_true_eq, decide_eq_true_eq] at hb
        obtain ⟨bad, hat, hbad⟩ : ∃ bad : Int, atI [V.int (-1 - far), V.int (n : Int), V.int ((n : Int) + far)] (way - 2) = some (.int bad) ∧ (bad < 0 ∨ (n : Int) ≤ bad) := by
          have h4 : way = 2 ∨ way = 3 ∨ way = 4 := by omega
          rcases h4 with h | h | h
          · rw [h]
            exact ⟨_, rfl, .inl (by omega)⟩
          · rw [h]
            exact ⟨_, rfl, .inr (by omega)⟩
          · rw [h]
            exact ⟨_, rfl, .inr (by omega)⟩
        have hS7 := ex_l (eH6.trans e7) hS
        obtain ⟨j, hj, hjl⟩ := mod_nat (cellAt ns 4) (m := (ys.length : Int)) (n := ys.length) (by omega) (by omega)
        refine q_setL (j := j) (e7 _ _ hys) (v := .int bad) (ev_ixNL (i := way - 2) (el_lst (ea_cons (ev_op (ev_un ev_c ru_neg) (ev_var rfl) rv_I0) (ea_cons (ev_var rfl) (ea_cons (ev_op (ev_var rfl) (ev_var rfl) rv_I0) ea_nil))) (Nat.le_of_ble_eq_true rfl)) (fun H8 e8 => ev_op (ev_var rfl) ev_c rv_I0) hat) (ev_var rfl) (ev_is (ev_op (sv_cell (by walk_at "ea") hS7 (by omega)) (ev_is (ev_len (K := K) (ev_var rfl) (sq_of (e7 _ _ hys))) (by rw [List.length_map])) (rv_I (by show (0 : Int) < _; omega))) (congrArg V.int hj)) (by rw [List.length_map]; omega) fun H8 e8 => ?_
        refine s_asg ev_c fun H9 e9 => hk _ _ ⟨wp, ys.set j bad, "row", rfl, (((eH6.trans e7).trans e8).mut nwp).trans e9, nwp, ?_, due_row (by omega) (by omega) (.inr ⟨bad, List.mem_iff_getElem?.mpr ⟨j, by rw [List.getElem?_set_self hjl]⟩, hbad⟩)⟩
        refine e9 _ _ ?_
        rw [upd_same, List.map_set]
    · have hS6 := ex_l (eH5.trans e6) hS
      obtain ⟨l, hl, hl4⟩ : ∃ l : Nat, (n : Int) + 1 + cellAt ns 4 % 3 = (l : Int) ∧ n < l ∧ l ≤ 43 := ⟨((n : Int) + 1 + cellAt ns 4 % 3).toNat, by omega, by omega, by omega⟩
      refine q_asgL (xs := (List.replicate l (0 : Int)).map V.int) (el_is (el_lcR1 (n := (l : Int)) (fun _ => true) (fun _ => .int 0) (ea_cons (ev_is (ev_op (ev_op (ev_var rfl) ev_c rv_I0) (ev_op (sv_cell (by walk_at "ea") hS6 (by omega)) ev_c (rv_I (by walk_at "side"))) rv_I0) (congrArg V.int hl)) ea_nil) (by omega) (fun _ => rfl) (fun _ _ _ _ => et_yes) (fun _ _ _ _ _ => ev_c)) ?_) fun vp H7 nvp e7 hvp => ?_
      · rw [given_all (fun _ => rfl), Int.toNat_natCast, List.map_replicate]
        refine List.ext_getElem? fun i => ?_
        rw [List.getElem?_map, List.getElem?_replicate]
        by_cases h : i < l
        · rw [List.getElem?_range h, if_pos h]
          rfl
        · rw [List.getElem?_eq_none (by rw [List.length_range]; omega), if_neg h]
          rfl
      exact s_asg ev_c fun H8 e8 => hk _ _ ⟨vp, List.replicate l 0, "row", rfl, ((eH5.trans e6).trans e7).trans e8, fresh_back (eH5.trans e6) nvp, e8 _ _ hvp, due_row (by omega) (by omega) (.inl (by rw [List.length_replicate]; omega))⟩

end
def d_l_cell_at : He.DefD := ⟨("_law_cell_at", none), "_law_cell_at", "_law_cell_at", defArgs s_l_cell_at, defBody s_l_cell_at, defScope s_l_cell_at, [], []⟩
def d_asked : He.DefD := ⟨("asked", none), "asked", "asked", defArgs s_asked, defBody s_asked, defScope s_asked, [], []⟩
def d_moored : He.DefD := ⟨("moored", none), "moored", "moored", defArgs s_moored, defBody s_moored, defScope s_moored, [], []⟩
def d_crowd : He.DefD := ⟨("crowd", none), "crowd", "crowd", defArgs s_crowd, defBody s_crowd, defScope s_crowd, [], []⟩
def d_shown : He.DefD := ⟨("shown", none), "shown", "shown", defArgs s_shown, defBody s_shown, defScope s_shown, [], []⟩
def d_l_word_of : He.DefD := ⟨("_law_word_of", none), "_law_word_of", "_law_word_of", defArgs s_l_word_of, defBody s_l_word_of, defScope s_l_word_of, [], []⟩
def d_l_tried : He.DefD := ⟨("_law_tried", none), "_law_tried", "_law_tried", defArgs s_l_tried, defBody s_l_tried, defScope s_l_tried, [], []⟩
def d_law : He.DefD := ⟨("law", none), "law", "law", defArgs s_law, defBody s_law, defScope s_law, [], []⟩
def fns : List He.DefD := [d_l_cell_at, d_asked, d_moored, d_crowd, d_shown, d_l_word_of, d_l_tried, d_law]
def fas : List He.Fa := [.free "ValueError", .free "bool", .free "int", .free "isinstance", .free "len", .free "list", .free "max", .free "min", .free "range", .free "reversed", .free "set", .free "sorted", .free "str", .free "sum", .free "tuple", .glo "_law_cell_at", .glo "asked", .glo "moored", .glo "crowd", .glo "shown", .glo "_law_word_of", .glo "_law_tried", .glo "law", .int "LONGEST" 40, .glo "NoQuay", .glo "NoRow", .glo "NoTree", .glo "NoOutcome", .glo "NoRank", .glo "NoNote", .glo "MoorError"]
def mores : Kf → Bool := wordsB
abbrev R : PySem.W.OpenRow := PySem.W.OpenLaw.row PySem.Challenge.rw_wishmoor_k04_refused_rows
abbrev hk : PySem.W.Hook := hookM 5 fas fns mores
def ob (s : PySem.W.SharedT) : AlM := obsM 5 fas fns mores (HandSHeadRun.getT s)
theorem ob_eq (s : PySem.W.SharedT) : ob s = hk.obs s.abs := obsM_eq (HandSHeadRun.getT_eq s)
def loose : List PySem.Str := ["asked", "moored", "crowd", "shown", "_law_cell_at", "_law_word_of", "_law_tried", "LONGEST", "MoorError", "NoQuay", "NoRow", "NoOutcome", "NoTree", "NoRank", "NoNote"]
set_option maxHeartbeats 0 in
theorem run (w : World) : HandSHeadRun.RunEq R (PySem.W.view R.prog [19]) hk ob 4000 loose w := by
  intro os
  kernel_rfl
theorem facts {P : Program} {w : World} {K : Kf} {h : Heap} {mg : Mg} {f : Addr} (X : K.In h) (G : h.Ns mainGlobals mg) (hfa : mg ("law" : Str) = some (.ref f)) (c : SaysM fas fns mores K) :
    ∃ fd : FuncData, (∀ (s : Shared) (v : Value), BindsTo s fd ⟨[v], []⟩ [("script", v)]) ∧ ∀ base : Heap, K.In base → base.Ns mainGlobals mg → FnOk P w K mg base CX0 4 f fd ["script"] (spLaw K) := by
  have T : Txt mg := ⟨He.free_ok X G (c.1.fact 4), He.free_ok X G (c.1.fact 8), He.free_ok X G (c.1.fact 5), He.free_ok X G (c.1.fact 3), He.free_ok X G (c.1.fact 2), He.free_ok X G (c.1.fact 1), He.free_ok X G (c.1.fact 12), He.free_ok X G (c.1.fact 14), He.free_ok X G (c.1.fact 9), He.free_ok X G (c.1.fact 11), He.free_ok X G (c.1.fact 13), He.free_ok X G (c.1.fact 7), He.free_ok X G (c.1.fact 6), He.free_ok X G (c.1.fact 10), He.free_ok X G (c.1.fact 0)⟩
  obtain ⟨fd_l_cell_at, F_l_cell_at⟩ := c.1.def_ 0 (d := d_l_cell_at) rfl
  have D_l_cell_at : Def K mg "_law_cell_at" s_l_cell_at := ⟨_, fd_l_cell_at, F_l_cell_at, He.glo_ok X G (c.1.fact 15)⟩
  obtain ⟨fd_asked, F_asked⟩ := c.1.def_ 1 (d := d_asked) rfl
  have D_asked : Def K mg "asked" s_asked := ⟨_, fd_asked, F_asked, He.glo_ok X G (c.1.fact 16)⟩
  obtain ⟨fd_moored, F_moored⟩ := c.1.def_ 2 (d := d_moored) rfl
  have D_moored : Def K mg "moored" s_moored := ⟨_, fd_moored, F_moored, He.glo_ok X G (c.1.fact 17)⟩
  obtain ⟨fd_crowd, F_crowd⟩ := c.1.def_ 3 (d := d_crowd) rfl
  have D_crowd : Def K mg "crowd" s_crowd := ⟨_, fd_crowd, F_crowd, He.glo_ok X G (c.1.fact 18)⟩
  obtain ⟨fd_shown, F_shown⟩ := c.1.def_ 4 (d := d_shown) rfl
  have D_shown : Def K mg "shown" s_shown := ⟨_, fd_shown, F_shown, He.glo_ok X G (c.1.fact 19)⟩
  obtain ⟨fd_l_word_of, F_l_word_of⟩ := c.1.def_ 5 (d := d_l_word_of) rfl
  have D_l_word_of : Def K mg "_law_word_of" s_l_word_of := ⟨_, fd_l_word_of, F_l_word_of, He.glo_ok X G (c.1.fact 20)⟩
  obtain ⟨fd_l_tried, F_l_tried⟩ := c.1.def_ 6 (d := d_l_tried) rfl
  have D_l_tried : Def K mg "_law_tried" s_l_tried := ⟨_, fd_l_tried, F_l_tried, He.glo_ok X G (c.1.fact 21)⟩
  obtain ⟨fd, F⟩ := c.1.def_ 7 (d := d_law) rfl
  have e := hfa.symm.trans (He.glo_ok X G (c.1.fact 22))
  cases e
  obtain ⟨tLONGEST, cLONGEST⟩ := He.int_ok X G (c.1.fact 23)
  have words := words_ok c.2
  have gNoQuay := He.glo_ok X G (c.1.fact 24)
  have gNoRow := He.glo_ok X G (c.1.fact 25)
  have gNoTree := He.glo_ok X G (c.1.fact 26)
  have gNoOutcome := He.glo_ok X G (c.1.fact 27)
  have gNoRank := He.glo_ok X G (c.1.fact 28)
  have gNoNote := He.glo_ok X G (c.1.fact 29)
  have gMoorError := He.glo_ok X G (c.1.fact 30)
  have E_NoQuay := exc_of gNoQuay (words.x 0 (by decide))
  have E_NoRow := exc_of gNoRow (words.x 1 (by decide))
  have b := FunD.bindsA (ps := ["script"]) F fun _ _ _ _ _ _ us hl => match us, hl with | [_], _ => rfl
  refine ⟨fd, fun s v => b s [v] rfl, fun base _ _ => ?_⟩
  have O_l_cell_at : Own P w K mg base CX0 1 "_law_cell_at" ["script", "k"] (sp_l_cell_at K) := ok_l_cell_at D_l_cell_at T
  have O_asked : Own P w K mg base (L2.CX P w) 1 "asked" ["long", "wishes"] (sp_asked K) := ok_asked D_asked T cLONGEST E_NoQuay E_NoRow
  have O_moored : Own P w K mg base (L2.CX P w) 2 "moored" ["long", "wishes"] (sp_moored K) := ok_moored D_moored T O_asked
  have O_crowd : Own P w K mg base (L2.CX P w) 2 "crowd" ["long", "wishes"] (sp_crowd K) := ok_crowd D_crowd T O_asked
  have O_shown : Own P w K mg base (L2.CX P w) 2 "shown" ["long", "wishes"] (sp_shown K) := ok_shown D_shown T O_asked
  have O_l_word_of : OwnP P w K mg base 1 "_law_word_of" ["e"] (sp_l_word_of K) := ok_l_word_of D_l_word_of T gNoQuay gNoTree gNoOutcome gNoRow gNoRank gNoNote
  have O_l_tried : Own P w K mg base CX0 3 "_law_tried" ["way", "long", "wishes"] (sp_l_tried K) := ok_l_tried D_l_tried T gMoorError words O_moored O_crowd O_shown O_l_word_of
  exact ok_law F T O_l_cell_at O_l_tried

end Wm
open PySem PySem.W PySem.Calls PyProof.Rows
set_option maxHeartbeats 0 in
theorem PySem.Challenge.cw_wishmoor_k04_refused_rows_holds : PySem.Challenge.rw_wishmoor_k04_refused_rows.Holds := by
  w_on; o_law
  refine HandSHeadRun.head_any (r := OpenLaw.row PySem.Challenge.rw_wishmoor_k04_refused_rows) (q := view (OpenLaw.row PySem.Challenge.rw_wishmoor_k04_refused_rows).prog [19]) (H := Wm.hk) (ob := Wm.ob) (M := 4000) (loose := Wm.loose) (d := HandSHeadRun.topDef (OpenLaw.row PySem.Challenge.rw_wishmoor_k04_refused_rows).prog 19) (kwd := []) Wm.ob_eq
    (by kernel_rfl) (fun s => by kernel_rfl) Wm.run (by kernel_rfl) (by kernel_rfl) (by kernel_rfl) (by rfl) (by first | assumption | decide +kernel) (by decide +kernel) ⟨rfl, rfl, rfl, rfl, rfl, by decide +kernel⟩ ?hw ?hc
  case hw => w_witness2
  case hc =>
    refine L2.walk_ofE (l := PySem.Challenge.rw_wishmoor_k04_refused_rows) (n := 63) (k := 4) (x := "script") (CX := L2.CX0) rfl (by decide) (by kernel_rfl) ⟨rfl, by decide, by decide⟩ ?F (fun _ _ _ _ z => z)
    intro w mg fa h Y G hmg0
    obtain ⟨K, KX, c⟩ := Y
    have hmg : mg ("law" : PySem.Str) = some (.ref fa) := by
      have e : (HandSHeadRun.topDef (OpenLaw.row PySem.Challenge.rw_wishmoor_k04_refused_rows).prog 19).name = ("law" : PySem.Str) := by kernel_rfl
      rw [← e]
      exact hmg0
    obtain ⟨fd, hb, hF⟩ := Wm.facts (P := (PySem.Challenge.rw_wishmoor_k04_refused_rows).prog) (w := w) KX G hmg c
    exact ⟨K, fd, Wm.spLaw K, KX, hb, fun H a ns hl _ hS => ⟨a, ns, rfl, hS, hl, fun _ => rfl⟩, hF⟩
