import PyProof.Rows.All
import Wide.All
import OpenK.AllK
import Wide.FinOn
import KE.KStateDown
import Lean
import HandS.Base
import HandS.Call
import HandS.List
import HandS.Comp
import HandS.Ends
import HandS.Iter
import HandS.Dict
import HandS.More
import HandS.Words
import HandS.WordsList
import HandS.WordsExc
import HandS.Exc
import HandS.ExcOwn
import HandS.TryOnly
import HandS.Evl
import HandS.IsInst
import HandS.Conv
import HandS.RevRange
import HandS.Rev
import HandS.SortRule
import HandS.SortInts
import HandS.SetFor
import HandS.Defaults
import HandS.Head0
import HandS.Head1
import HandS.Head2
import HandS.HeadEnd
import HandS.HeadHook1
import HandS.HeadHook2
import HandS.Zip
import PySem.Challenge.RW_wishmoor_k03_whole_any_order
set_option Elab.async false
set_option linter.all false
set_option maxRecDepth 100000
set_option maxHeartbeats 400000
/-! THE LAYER: a def as the top leaves it (Def), as callers use it (Own), and what Evl lacks -/
namespace Wm
open PySem PySem.Spec PyProof.Rows L2 Evl
abbrev Mg := Str → Option Value
abbrev Kf := PySem.W.Frag

structure Def (K : Kf) (mg : Mg) (x : Str) (st : Stmt) : Prop where
  ex : ∃ (f : Addr) (fd : FuncData), FunD K x x (defArgs st) (defBody st) (defScope st) [] [] f fd ∧ mg x = some (.ref f)
structure Own (P : Program) (w : World) (K : Kf) (mg : Mg) (base : Heap) (CX : CXT) (k : Nat) (x : Str) (ps : List Str) (sp : Sp) : Prop where
  ex : ∃ (f : Addr) (fd : FuncData), FnOk P w K mg base CX k f fd ps sp ∧ mg x = some (.ref f) ∧ PySem.W.keepIn K (.ref f) = true ∧ Binds K fd ps []
abbrev BindsWell (x : Str) (st : Stmt) (ps : List Str) : Prop := ∀ (kV doc pm : Value) (an : Option Addr) (cdv ct : Value) (us : List Value), us.length = ps.length →
  bindArgs (PySem.W.fnOf x x (defArgs st) (defBody st) (defScope st) .none kV doc pm an cdv ct) ⟨us, []⟩ = pure (ps.zip us)
section
variable {P : Program} {w : World} {K : Kf} {mg : Mg} {base : Heap}
/-- nothing is raised out of the def -/
theorem Def.calm {x : Str} {st : Stmt} {N ps : List Str} {k : Nat} {sp : Sp} (D : Def K mg x st) (S : FnScope N ps (defScope st)) (b : BindsWell x st ps) (len : ∀ vs H Q E, sp vs H Q E → vs.length = ps.length)
    (body : ∀ (f : Addr) (cdv : Value) (A : Around) (outer : List Env) (s : Shared) (H : Hp) (vs : List V) (Q : VK) (E : XK), Room k (A.deeper (envOfC x (defScope st) s.heap.objs.size f cdv)) → sp vs H Q E →
      ∃ t, PSs (cxOf CX0 P w K mg base N x (defScope st) f cdv A outer s H E).nox (defBody st) t ∧ t { nx := fun _ H' => Q .non H', rt := Q } (start N vs) H) : Own P w K mg base CX0 (k + 1) x ps sp := by
  obtain ⟨f, fd, F, m⟩ := D.ex
  refine ⟨f, fd, F.ok S len fun cdv A outer s H vs Q E hr h => ?_, m, F.kp, F.bindsN b⟩
  obtain ⟨t, h1, h2⟩ := body f cdv A outer s H vs Q E hr h
  exact ⟨t, h1.nox, h2⟩
/-- something may be raised out of it -/
theorem Def.hot {x : Str} {st : Stmt} {N ps : List Str} {k : Nat} {sp : Sp} (D : Def K mg x st) (S : FnScope N ps (defScope st)) (b : BindsWell x st ps) (len : ∀ vs H Q E, sp vs H Q E → vs.length = ps.length)
    (body : ∀ (f : Addr) (cdv : Value) (A : Around) (outer : List Env) (s : Shared) (H : Hp) (vs : List V) (Q : VK) (E : XK), Room k (A.deeper (envOfC x (defScope st) s.heap.objs.size f cdv)) → sp vs H Q E →
      ∃ t, PSs (cxOf (L2.CX P w) P w K mg base N x (defScope st) f cdv A outer s H E) (defBody st) t ∧ t { nx := fun _ H' => Q .non H', rt := Q } (start N vs) H) : Own P w K mg base (L2.CX P w) (k + 1) x ps sp := by
  obtain ⟨f, fd, F, m⟩ := D.ex
  exact ⟨f, fd, F.ok S len fun cdv A outer s H vs Q E hr h => body f cdv A outer s H vs Q E hr h, m, F.kp, F.bindsN b⟩
end
section
variable {X : Cx} {CX : CXT} {k : Nat} {ps : List Str} {sp : Sp} {E : XK} {x : Str} {p pos : Pos} {e : Expr} {es : List Expr} {t : TA}
theorem pe_own (F : Own X.prog X.w X.K X.mg X.base CX k x ps sp) (hr : Room k X.A) (hx : Passes CX X E) (ha : PA X (e :: es) t) (hg : Gl X x := by rfl) (hdb : (x == ("__debug__" : Str)) = false := by decide)
    (he : starEach (e :: es) X.env = (false, eval e X.env) :: starEach es X.env := by rfl) (hpl : (backTo pos (starEach es X.env)).any (·.1) = false := by rfl) : PE X (.Call (.Name x p) (e :: es) [] pos) (tCall sp [] E t) := by
  obtain ⟨f, fd, G, m, kp, b⟩ := F.ex
  exact pe_call G hr hg m kp b .nil hx ha hdb he hpl
theorem op_inK {K : Kf} (h : X.K = K) : OpR X (compareOp .In) (rIn K false) := h ▸ op_in_seq
theorem op_notInK {K : Kf} (h : X.K = K) : OpR X (compareOp .NotIn) (rIn K true) := h ▸ op_notIn_seq
theorem ix_listK {K : Kf} (h : X.K = K) : IxR X (rIxL K) := h ▸ ix_list
theorem ix_tupK {K : Kf} (h : X.K = K) : IxR X (rIxT K) := h ▸ ix_tup
theorem op_eqK {K : Kf} (h : X.K = K) (hu : X.A.units + 64 < cLine) : OpR X (compareOp .Eq) (rEqD K) := h ▸ op_eqD hu
theorem cr_lenK {K : Kf} (h : X.K = K) : CallR X (.builtin "len") (rLenS K) := h ▸ call_len_seq
theorem pg_tupK {K : Kf} {es : List Expr} {j n : Nat} {g : TGs} {pos : Pos} (h : X.K = K) (hc : X.calm = true) (hs : PGs X es g) (hn : (assignEach es X.env).length = n := by rfl) (ht : (assignEach es X.env).findIdx? (·.1) = none := by rfl) : PG X (.Tuple es j pos) (gTup K n g) := h ▸ pg_tup hc hs hn ht
theorem cr_len : CallR X (.builtin "len") (rLenS X.K) := call_len_seq
theorem cr_list : CallR X (.type "list") (rListS X.K) := call_list_of
end
/-- the names that the program leaves to the built-ins -/
structure Txt (mg : Mg) : Prop where
  len : mg "len" = none
  range : mg "range" = none
  list : mg "list" = none
  isinstance : mg "isinstance" = none
  int : mg "int" = none
  bool : mg "bool" = none
  str : mg "str" = none
  tuple : mg "tuple" = none
  reversed : mg "reversed" = none
  sorted : mg "sorted" = none
  sum : mg "sum" = none
  min : mg "min" = none
  max : mg "max" = none
  set : mg "set" = none
  ValueError : mg "ValueError" = none
/-- the law's promise -/
def spLaw (K : Kf) : Sp := fun vs H Q _ => ∃ (a : Addr) (ns : List Int), vs = [.ref a] ∧ SqL K H a (ns.map V.int) ∧ ns.length ≤ 63 ∧ ∀ H', Q (.bl true) H'
/-! ### promises -/
def RetU (xs : List V) (H : Hp) (Q : VK) : Prop := ∀ p H2, H p = none → Ex H H2 → H2 p = some (.tup xs) → Q (.ref p) H2
section
variable {K : Kf} {σ : L2.St} {H H' : Hp} {ta tb te tx : TE} {t u : TT} {x y z v : V} {r : R2}
theorem retV_mono {Q : VK} (k : RetV v H Q) (e : Ex H H') : RetV v H' Q := fun H2 e2 => k H2 (e.trans e2)
theorem retL_mono {xs : List V} {Q : VK} (k : RetL xs H Q) (e : Ex H H') : RetL xs H' Q := fun p H2 hp e2 h => k p H2 (fresh_back e hp) (e.trans e2) h
/-- isinstance of a built-in class -/
theorem ev_isi {a b : String} {r : Bool} (ha : Ev ta σ H x) (ht : ∀ H1, Ex H H1 → TyX K H1 x (.type a)) (hk : kitB a b = some r) : Ev (tCB (rIsi K) (tCons ta (tCons (tC (.ty b)) tNil))) σ H (.bl r) := fun H1 e Q q =>
  ha H1 e _ fun H2 e2 => ⟨x, .ty b, .type a, .type b, r, rfl, ClsV.ty b, ht H2 (e.trans e2), kit_ty hk, q H2 e2⟩
theorem et_of {b : Bool} (h : Ev te σ H (.bl b)) : EvT (tTest te) σ H b := et_test h
/-- a call: what it hands back is any value of which P -/
def EvP (te : TE) (σ : L2.St) (H : Hp) (P : V → Hp → Prop) : Prop := ∀ H1, Ex H H1 → ∀ Q : VK, (∀ v H2, Ex H1 H2 → P v H2 → Q v H2) → te σ H1 Q
end
end Wm
/-! ### the head's facts, with one Bool more -/
namespace Wm
open PySem PySem.Spec PyProof.Rows L2
abbrev AlM : Type := He.AlD × Bool
def obsM (n : Nat) (fa : List He.Fa) (fn : List He.DefD) (mo : Kf → Bool) (g : Addr → Option Obj) : AlM := (He.obsDG n fa fn g, mo (He.frG g (He.asD g n)))
def SaysM (fa : List He.Fa) (fn : List He.DefD) (mo : Kf → Bool) (K : Kf) : Prop := He.SaysD fa fn K ∧ mo K = true
def hookM (n : Nat) (fa : List He.Fa) (fn : List He.DefD) (mo : Kf → Bool) : PySem.W.Hook where
  α := AlM
  obs := fun z => obsM n fa fn mo z.heap.get?
  val := fun _ => (He.valD fn, true)
  says := fun _ hp => ∃ K : Kf, K.In hp ∧ SaysM fa fn mo K
  of := fun _ _ e => ⟨_, He.frG_in, (Prod.mk.inj e).1, (Prod.mk.inj e).2⟩
  keeps := fun _ _ _ ⟨K, hK, c⟩ z => ⟨K, PySem.W.Frag.In.keeps hK z, c⟩
theorem obsM_eq {n : Nat} {fa : List He.Fa} {fn : List He.DefD} {mo : Kf → Bool} {g : Addr → Option Obj} {z : Shared} (h : ∀ a, g a = z.heap.get? a) : obsM n fa fn mo g = (hookM n fa fn mo).obs z := by
  rw [show g = z.heap.get? from funext h]
  rfl
/-- an own class of exceptions, as raise asks it -/
structure Exc (K : Kf) (mg : Mg) (c : Str) (C : Addr) (bm : List Value) : Prop where
  g : mg c = some (.ref C)
  x : PySem.W.excIn K C bm "ValueError.__new__" = true
  k : PySem.W.keepIn K (.ref C) = true
  b : PySem.W.subIn K (.ref C) (.type "BaseException") = some true
  t : PySem.W.typeIn K (.ref C) = some (.type "type")
end Wm

/-! ### the words of the walk: «ex» an extension, «sq» a list that stands, «ev» an expression's value, «et» a test's answer, «side» what an operator asks -/
local macro_rules | `(tactic| walk_at "ex") => `(tactic| first
  | assumption
  | exact Evl.Ex.refl _
  | (refine Evl.Ex.trans ?_ (by assumption); walk_at "ex"))
namespace Wm
open PySem PySem.Spec PyProof.Rows L2 Evl
section
variable {K : Kf} {σ : L2.St} {H H' : Hp} {ta tb te tx : TE} {t u : TT} {x y z v : V} {r : R2} {a : Addr} {xs : List V}
theorem sq_ex (e : Ex H H') (h : H a = some (.lst xs)) : SqL K H' a xs := sq_of (e a _ h)
theorem st_ex (e : Ex H H') (h : H a = some (.tup xs)) : SqT K H' a xs := st_of (e a _ h)
theorem rv_isN : RV (fun x y H Q => y = .non ∧ Q (.bl (decide (x = .non))) H) x .non H (.bl (decide (x = .non))) := fun H1 _ _ q => ⟨rfl, q H1 (Ex.refl H1)⟩
theorem rv_notN : RV (fun x y H Q => y = .non ∧ Q (.bl (!decide (x = .non))) H) x .non H (.bl (!decide (x = .non))) := fun H1 _ _ q => ⟨rfl, q H1 (Ex.refl H1)⟩
theorem rv_cat {p q : Addr} {xs ys : List V} (hp : H p = some (.lst xs)) (hq : H q = some (.lst ys)) (hz : xs.length + ys.length ≤ 100000) {Q : VK} (k : ∀ l, H l = none → Q (.ref l) (upd H l (.lst (xs ++ ys)))) : rCat (.ref p) (.ref q) H Q :=
  ⟨p, q, xs, ys, rfl, rfl, hp, hq, sz_of hz, k⟩
/-- xs + [..]: a new list -/
theorem el_cat {p : Addr} {xs ys : List V} (ha : Ev ta σ H (.ref p)) (hp : H p = some (.lst xs)) (hb : EvL tb σ H ys) (hz : xs.length + ys.length ≤ 100000) : EvL (tOp rCat ta tb) σ H (xs ++ ys) := fun H1 e Q q =>
  ha H1 e _ fun H2 e2 => hb H2 (e.trans e2) _ fun b H3 _ e3 hb3 => rv_cat (((e.trans e2).trans e3) p _ hp) hb3 hz fun l hl => q l _ (fresh_back (e2.trans e3) hl) ((e2.trans e3).trans (Ex.new hl)) upd_same
/-- [..] + [..] -/
theorem el_catLL {xs ys : List V} (ha : EvL ta σ H xs) (hb : EvL tb σ H ys) (hz : xs.length + ys.length ≤ 100000) : EvL (tOp rCat ta tb) σ H (xs ++ ys) := fun H1 e Q q =>
  ha H1 e _ fun p H2 _ e2 hp => hb H2 (e.trans e2) _ fun b H3 _ e3 hb3 => rv_cat (e3 p _ hp) hb3 hz fun l hl => q l _ (fresh_back (e2.trans e3) hl) ((e2.trans e3).trans (Ex.new hl)) upd_same
theorem el_is {xs ys : List V} (h : EvL te σ H xs) (e : xs = ys) : EvL te σ H ys := e ▸ h
/-- a call that hands back a value, a list, a tuple; what is told of the arguments is told at the heap of the call -/
theorem ev_callV {sp : Sp} {E : XK} {ta : TA} {vs : List V} (h : EvA ta σ H vs) (hs : ∀ H1, Ex H H1 → ∀ Q : VK, RetV z H1 Q → ∀ E : XK, sp vs H1 Q E) : Ev (tCall sp [] E ta) σ H z := fun H1 e Q q =>
  h H1 e _ fun H2 e2 => by
    rw [List.append_nil]
    exact hs H2 (e.trans e2) Q (fun H3 e3 => q H3 (e2.trans e3)) E
theorem el_callL {sp : Sp} {E : XK} {ta : TA} {vs xs : List V} (h : EvA ta σ H vs) (hs : ∀ H1, Ex H H1 → ∀ Q : VK, RetL xs H1 Q → ∀ E : XK, sp vs H1 Q E) : EvL (tCall sp [] E ta) σ H xs := fun H1 e Q q =>
  h H1 e _ fun H2 e2 => by
    rw [List.append_nil]
    exact hs H2 (e.trans e2) Q (fun p H3 hp e3 h3 => q p H3 (fresh_back e2 hp) (e2.trans e3) h3) E
theorem eu_callU {sp : Sp} {E : XK} {ta : TA} {vs xs : List V} (h : EvA ta σ H vs) (hs : ∀ H1, Ex H H1 → ∀ Q : VK, RetU xs H1 Q → ∀ E : XK, sp vs H1 Q E) : EvU (tCall sp [] E ta) σ H xs := fun H1 e Q q =>
  h H1 e _ fun H2 e2 => by
    rw [List.append_nil]
    exact hs H2 (e.trans e2) Q (fun p H3 hp e3 h3 => q p H3 (fresh_back e2 hp) (e2.trans e3) h3) E
theorem ev_ixL {i : Int} {p : Addr} {xs : List V} (ha : Ev ta σ H (.ref p)) (hb : Ev tb σ H (.int i)) (h : SqL K H p xs) (hv : atI xs i = some v) : Ev (tOp (rIxL K) ta tb) σ H v := ev_op ha hb (rv_ixL h hv)
theorem ev_ixNL {i : Int} {xs : List V} (ha : EvL ta σ H xs) (hb : ∀ H1, Ex H H1 → Ev tb σ H1 (.int i)) (hv : atI xs i = some v) : Ev (tOp (rIxL K) ta tb) σ H v := ev_opL1 ha hb fun _ _ h _ => rv_ixL (sq_of h) hv
theorem atI_int {ns : List Int} {i : Int} (h0 : 0 ≤ i) (h1 : i < ns.length) : atI (ns.map V.int) i = some (.int (ns.getD i.toNat 0)) := by
  obtain ⟨j, rfl⟩ := Int.eq_ofNat_of_zero_le h0
  refine atI_nat ?_
  have hj : j < ns.length := by omega
  rw [List.getElem?_map, List.getElem?_eq_getElem hj, Int.toNat_natCast, List.getD_eq_getElem?_getD, List.getElem?_eq_getElem hj]
  rfl
theorem atI_get? {xs : List V} {i : Int} {j : Nat} (hj : i = (j : Int)) (h : xs[j]? = some v) : atI xs i = some v := by
  rw [hj]
  exact atI_nat h
/-- reading a slot of a list of ints -/
theorem map_at {ns : List Int} {i : Nat} {w : V} (h : (ns.map V.int)[i]? = some w) : ∃ z, w = .int z ∧ ns[i]? = some z ∧ i < ns.length ∧ z ∈ ns ∧ ns.getD i 0 = z := by
  rw [List.getElem?_map] at h
  cases e : ns[i]? with
  | none =>
    rw [e] at h
    cases h
  | some z =>
    rw [e] at h
    obtain ⟨hi, _⟩ := List.getElem?_eq_some_iff.mp e
    exact ⟨z, (Option.some.inj h).symm, rfl, hi, List.mem_of_getElem? e, by rw [List.getD_eq_getElem?_getD, e]; rfl⟩
end
/-! ### == of lists -/
def vD : V → PyData
  | .non => .none
  | .bl b => .bool b
  | .int i => .int i
  | .str s => .str s
  | _ => .none
def flat1 : V → Bool
  | .non => true
  | .bl _ => true
  | .int _ => true
  | .str _ => true
  | _ => false
theorem dpAll_flat {K : Kf} {H : Hp} : ∀ {xs : List V}, xs.all flat1 = true → DpAll K H xs (xs.map vD)
  | [], _ => .nil
  | x :: r, h => by
    rw [List.all_cons, Bool.and_eq_true] at h
    refine .cons ?_ (dpAll_flat h.2)
    cases x with
    | non => exact .non
    | bl b => exact .bl b
    | int i => exact .int i
    | str s => exact .str s
    | _ => exact Bool.noConfusion h.1
theorem all_int (ns : List Int) : (ns.map V.int).all flat1 = true := by
  rw [List.all_map, List.all_eq_true]
  intro z _
  rfl
end Wm
local macro_rules | `(tactic| walk_at "sq") => `(tactic| first
  | assumption
  | exact Evl.sq_of (by assumption)
  | (refine Evl.ex_l ?_ (by assumption); walk_at "ex")
  | (refine Wm.sq_ex ?_ (by assumption); walk_at "ex"))
local macro_rules | `(tactic| walk_at "side") => `(tactic| first
  | assumption
  | exact ⟨by decide, by decide⟩
  | exact ⟨by omega, by omega⟩
  | exact Or.inl ⟨by omega, by omega⟩
  | exact Or.inr ⟨by omega, by omega⟩
  | (show (0 : Int) < _; omega)
  | (show (0 : Int) < _; decide)
  | omega)
local macro_rules | `(tactic| walk_at "at") => `(tactic| first
  | assumption
  | exact L2.atI_nat (by assumption)
  | exact Wm.atI_int (by omega) (by omega)
  | exact Wm.atI_get? (by omega) (by assumption))
local macro_rules | `(tactic| walk_at "call") => `(tactic| fail "no call")
local macro_rules | `(tactic| walk_at "ev") => `(tactic| first
  | with_reducible exact Evl.ev_c
  | ((with_reducible refine' Evl.ev_var ?h); (case h => rfl))
  | ((with_reducible refine' Evl.ev_op ?ha ?hb Evl.rv_I0); (case ha => walk_at "ev"); (case hb => walk_at "ev"))
  | ((with_reducible refine' Evl.ev_op ?ha ?hb (Evl.rv_I ?hc)); (case ha => walk_at "ev"); (case hb => walk_at "ev"); (case hc => walk_at "side"))
  | ((with_reducible refine' Evl.ev_op ?ha ?hb (Evl.rv_eq ?hc)); (case ha => walk_at "ev"); (case hb => walk_at "ev"); (case hc => rfl))
  | ((with_reducible refine' Evl.ev_op ?ha ?hb (Evl.rv_ne ?hc)); (case ha => walk_at "ev"); (case hb => walk_at "ev"); (case hc => rfl))
  | ((with_reducible refine' Evl.ev_op ?ha Evl.ev_c Wm.rv_isN); (case ha => walk_at "ev"))
  | ((with_reducible refine' Evl.ev_op ?ha Evl.ev_c Wm.rv_notN); (case ha => walk_at "ev"))
  | ((with_reducible refine' Evl.ev_len ?ha ?hb); (case ha => walk_at "ev"); (case hb => walk_at "sq"))
  | ((with_reducible refine' Wm.ev_ixL ?ha ?hb ?hc ?hd); (case ha => walk_at "ev"); (case hb => walk_at "ev"); (case hc => walk_at "sq"); (case hd => walk_at "at"))
  | ((with_reducible refine' Evl.ev_un ?ha Evl.ru_neg); (case ha => walk_at "ev"))
  | ((with_reducible refine' Evl.ev_notV ?ha); (case ha => walk_at "ev"))
  | ((with_reducible refine' Evl.ev_andV ?ha ?hb); (case ha => walk_at "ev"); (case hb => (intro _; walk_at "ev")))
  | ((with_reducible refine' Evl.ev_orV ?ha ?hb); (case ha => walk_at "ev"); (case hb => (intro _; walk_at "ev")))
  | walk_at "call")
local macro_rules | `(tactic| walk_at "ea") => `(tactic| first
  | with_reducible exact Evl.ea_nil
  | ((with_reducible refine' Evl.ea_cons ?ha ?hb); (case ha => walk_at "ev"); (case hb => walk_at "ea")))
local macro_rules | `(tactic| walk_at "el") => `(tactic| first
  | ((with_reducible refine' Evl.el_lst ?ha ?hb); (case ha => walk_at "ea"); (case hb => first | decide | exact Nat.le_of_ble_eq_true rfl | simp))
  | ((with_reducible refine' Evl.el_list ?ha ?hb); (case ha => walk_at "ev"); (case hb => walk_at "sq"))
  | walk_at "call")
local macro_rules | `(tactic| walk_at "et") => `(tactic| first
  | ((with_reducible refine' Evl.et_test ?ha); (case ha => walk_at "ev"))
  | ((with_reducible refine' Evl.et_B ?ha); (case ha => walk_at "ev"))
  | ((with_reducible refine' Evl.et_not ?ha); (case ha => walk_at "et"))
  | ((with_reducible refine' Evl.et_and ?ha ?hb); (case ha => walk_at "et"); (case hb => (intro _; walk_at "et")))
  | ((with_reducible refine' Evl.et_or ?ha ?hb); (case ha => walk_at "et"); (case hb => (intro _; walk_at "et"))))
local macro_rules | `(tactic| walk_at "eu") => `(tactic| first
  | ((with_reducible refine' Evl.eu_tup ?ha ?hb); (case ha => walk_at "ea"); (case hb => first | decide | exact Nat.le_of_ble_eq_true rfl | simp)))

/-! ### dicts by ints, == of lists, comprehensions by what they give -/
namespace Wm
open PySem PySem.Spec PyProof.Rows L2 Evl
section
variable {K : Kf} {σ : L2.St} {H H' : Hp} {ta tb te tl tx td ty tv : TE} {t u : TT} {x y z v : V} {r : R2} {a d : Addr} {xs ys : List V} {D : Ends} {tz : TS}
theorem ev_dnotin {k : Int} {kvs : List (Key × V)} (ha : Ev ty σ H (.int k)) (hb : Ev td σ H (.ref d)) (hd : H d = some (.dK kvs)) : Ev (tDNotIn ty td) σ H (.bl (!(valV kvs (Sum.inl k : Key)).isSome)) := fun H1 e Q q =>
  ha H1 e _ fun H2 e2 => hb H2 (e.trans e2) _ fun H3 e3 => ⟨d, _, rfl, DGet.k (k := Sum.inl k) (((e.trans e2).trans e3) d _ hd), q H3 (e2.trans e3)⟩
theorem ev_din {k : Int} {kvs : List (Key × V)} (ha : Ev ty σ H (.int k)) (hb : Ev td σ H (.ref d)) (hd : H d = some (.dK kvs)) : Ev (tDIn ty td) σ H (.bl (valV kvs (Sum.inl k : Key)).isSome) := fun H1 e Q q =>
  ha H1 e _ fun H2 e2 => hb H2 (e.trans e2) _ fun H3 e3 => ⟨d, _, rfl, DGet.k (k := Sum.inl k) (((e.trans e2).trans e3) d _ hd), q H3 (e2.trans e3)⟩
theorem s_dput {k : Int} {kvs : List (Key × V)} (hv : Ev tv σ H v) (ho : Ev td σ H (.ref d)) (hi : Ev ty σ H (.int k)) (hd : H d = some (.dK kvs)) (hz : kvs.length < 100000) (q : ∀ H1, Ex H H1 → D.nx σ (upd H1 d (.dK (putK kvs (Sum.inl k) v)))) : sDPut td ty tv D σ H :=
  hv H (Ex.refl H) _ fun H1 e1 => ho H1 e1 _ fun H2 e2 => hi H2 (e1.trans e2) _ fun H3 e3 =>
    ⟨d, _, rfl, DPut.k (k := Sum.inl k) (((e1.trans e2).trans e3) d _ hd) (sz_lt hz), q H3 ((e1.trans e2).trans e3)⟩
theorem q_dput {k : Int} {kvs : List (Key × V)} (hv : Ev tv σ H v) (ho : Ev td σ H (.ref d)) (hi : Ev ty σ H (.int k)) (hd : H d = some (.dK kvs)) (hz : kvs.length < 100000) (q : ∀ H1, Ex H H1 → tz D σ (upd H1 d (.dK (putK kvs (Sum.inl k) v)))) : tSeq (sDPut td ty tv) tz D σ H :=
  s_dput (D := { D with nx := tz D }) hv ho hi hd hz q
/-- x = {} -/
theorem q_dnew {i : Nat} (q : ∀ d, H d = none → tz D (σ.set i (some (.ref d))) (upd H d (.dK []))) : tSeq (tAsg tDNewK (gName i)) tz D σ H := fun d hd => q d hd
/-! == -/
def fl0 : V → Bool
  | .non => true
  | .int _ => true
  | .str _ => true
  | _ => false
theorem eqv_fl0 {x y : V} (hx : fl0 x = true) (hy : fl0 y = true) : PyData.eqv (vD x) (vD y) = decide (x = y) := by
  cases x with
  | non => cases y with
    | non => simp [vD, PyData.eqv]
    | int j => simp [vD, PyData.eqv]
    | str s => simp [vD, PyData.eqv]
    | _ => exact Bool.noConfusion hy
  | int i => cases y with
    | non => simp [vD, PyData.eqv]
    | int j => by_cases e : i = j <;> simp [vD, PyData.eqv, e]
    | str s => simp [vD, PyData.eqv]
    | _ => exact Bool.noConfusion hy
  | str s => cases y with
    | non => simp [vD, PyData.eqv]
    | int j => simp [vD, PyData.eqv]
    | str u => by_cases e : s = u <;> simp [vD, PyData.eqv, e]
    | _ => exact Bool.noConfusion hy
  | _ => exact Bool.noConfusion hx
theorem eqvAll_fl0 : ∀ {xs ys : List V}, xs.all fl0 = true → ys.all fl0 = true → PyData.eqvAll (xs.map vD) (ys.map vD) = decide (xs = ys)
  | [], [], _, _ => by simp [PyData.eqvAll]
  | [], _ :: _, _, _ => by simp [PyData.eqvAll]
  | _ :: _, [], _, _ => by simp [PyData.eqvAll]
  | x :: xs, y :: ys, h, g => by
    rw [List.all_cons, Bool.and_eq_true] at h g
    show (PyData.eqv (vD x) (vD y) && PyData.eqvAll (xs.map vD) (ys.map vD)) = _
    rw [eqv_fl0 h.1 g.1, eqvAll_fl0 h.2 g.2]
    by_cases e : x = y <;> by_cases e2 : xs = ys <;> simp [e, e2]
theorem fl0_flat1 {x : V} (h : fl0 x = true) : flat1 x = true := by
  cases x <;> first | rfl | exact Bool.noConfusion h
theorem all_flat1 {xs : List V} (h : xs.all fl0 = true) : xs.all flat1 = true := List.all_eq_true.mpr fun x hx => fl0_flat1 (List.all_eq_true.mp h x hx)
def fl2 : V → Bool
  | .non => true
  | .bl _ => true
  | .int _ => true
  | _ => false
theorem canLayAll_fl2 : ∀ {xs : List V}, xs.all fl2 = true → PyData.canLayAll0 (xs.map vD) = true
  | [], _ => rfl
  | x :: xs, h => by
    rw [List.all_cons, Bool.and_eq_true] at h
    show (PyData.canLay0 (vD x) && PyData.canLayAll0 (xs.map vD)) = true
    rw [canLayAll_fl2 h.2, Bool.and_true]
    cases x <;> first | rfl | exact Bool.noConfusion h.1
theorem depthAll_fl2 : ∀ {xs : List V}, xs.all fl2 = true → PyData.depthAll (xs.map vD) ≤ 1
  | [], _ => by simp [PyData.depthAll]
  | x :: xs, h => by
    rw [List.all_cons, Bool.and_eq_true] at h
    have ih := depthAll_fl2 h.2
    have h1 : PyData.depth (vD x) ≤ 1 := by
      cases x <;> first | (simp [vD, PyData.depth]; done) | exact Bool.noConfusion h.1
    simp only [List.map_cons, PyData.depthAll]
    omega
theorem shaped_list {xs : List V} (h : xs.all fl2 = true) : SeqAt.shaped (.list (xs.map vD)) = true := by
  unfold SeqAt.shaped
  rw [Bool.and_eq_true, decide_eq_true_eq]
  refine ⟨canLayAll_fl2 h, ?_⟩
  have h1 := depthAll_fl2 h
  simp only [PyData.depth]
  omega
/-- None, ints -/
def fl3 : V → Bool
  | .non => true
  | .int _ => true
  | _ => false
theorem fl3_0 {xs : List V} (h : xs.all fl3 = true) : xs.all fl0 = true := List.all_eq_true.mpr fun x hx => by
  have q := List.all_eq_true.mp h x hx
  cases x <;> first | rfl | exact Bool.noConfusion q
theorem fl3_2 {xs : List V} (h : xs.all fl3 = true) : xs.all fl2 = true := List.all_eq_true.mpr fun x hx => by
  have q := List.all_eq_true.mp h x hx
  cases x <;> first | rfl | exact Bool.noConfusion q
theorem rv_eqL {p q : Addr} (hp : SqL K H p xs) (hq : SqL K H q ys) (fx : xs.all fl3 = true) (fy : ys.all fl3 = true) : RV (rEqD K) (.ref p) (.ref q) H (.bl (decide (xs = ys))) := fun H1 e Q k =>
  ⟨_, _, .lst (ex_l e hp) (dpAll_flat (all_flat1 (fl3_0 fx))), .lst (ex_l e hq) (dpAll_flat (all_flat1 (fl3_0 fy))), shaped_list (fl3_2 fx), shaped_list (fl3_2 fy), by
    rw [show PyData.eqv (.list (xs.map vD)) (.list (ys.map vD)) = decide (xs = ys) by rw [PyData.eqv]; exact eqvAll_fl0 (fl3_0 fx) (fl3_0 fy)]
    exact k H1 (Ex.refl H1)⟩
theorem rv_neL {p q : Addr} (hp : SqL K H p xs) (hq : SqL K H q ys) (fx : xs.all fl3 = true) (fy : ys.all fl3 = true) : RV (rNeD K) (.ref p) (.ref q) H (.bl (!decide (xs = ys))) := fun H1 e Q k =>
  ⟨_, _, .lst (ex_l e hp) (dpAll_flat (all_flat1 (fl3_0 fx))), .lst (ex_l e hq) (dpAll_flat (all_flat1 (fl3_0 fy))), shaped_list (fl3_2 fx), shaped_list (fl3_2 fy), by
    rw [show PyData.eqv (.list (xs.map vD)) (.list (ys.map vD)) = decide (xs = ys) by rw [PyData.eqv]; exact eqvAll_fl0 (fl3_0 fx) (fl3_0 fy)]
    exact k H1 (Ex.refl H1)⟩
theorem ev_eqL {p q : Addr} (ha : Ev ta σ H (.ref p)) (hb : Ev tb σ H (.ref q)) (hp : SqL K H p xs) (hq : SqL K H q ys) (fx : xs.all fl3 = true) (fy : ys.all fl3 = true) : Ev (tOp (rEqD K) ta tb) σ H (.bl (decide (xs = ys))) := ev_op ha hb (rv_eqL hp hq fx fy)
theorem ev_neL {p q : Addr} (ha : Ev ta σ H (.ref p)) (hb : Ev tb σ H (.ref q)) (hp : SqL K H p xs) (hq : SqL K H q ys) (fx : xs.all fl3 = true) (fy : ys.all fl3 = true) : Ev (tOp (rNeD K) ta tb) σ H (.bl (!decide (xs = ys))) := ev_op ha hb (rv_neL hp hq fx fy)
/-- against a list that is made on the way -/
theorem ev_eqLN {p : Addr} (ha : Ev ta σ H (.ref p)) (hb : EvL tb σ H ys) (hp : SqL K H p xs) (fx : xs.all fl3 = true) (fy : ys.all fl3 = true) : Ev (tOp (rEqD K) ta tb) σ H (.bl (decide (xs = ys))) :=
  ev_opL ha hb fun _ _ h e => rv_eqL (ex_l e hp) (sq_of h) fx fy
theorem ev_neLN {p : Addr} (ha : Ev ta σ H (.ref p)) (hb : EvL tb σ H ys) (hp : SqL K H p xs) (fx : xs.all fl3 = true) (fy : ys.all fl3 = true) : Ev (tOp (rNeD K) ta tb) σ H (.bl (!decide (xs = ys))) :=
  ev_opL ha hb fun _ _ h e => rv_neL (ex_l e hp) (sq_of h) fx fy
theorem ev_neNN (ha : EvL ta σ H xs) (hb : EvL tb σ H ys) (fx : xs.all fl3 = true) (fy : ys.all fl3 = true) : Ev (tOp (rNeD K) ta tb) σ H (.bl (!decide (xs = ys))) :=
  ev_opLL ha hb fun _ _ _ h g _ => rv_neL (sq_of h) (sq_of g) fx fy
theorem ev_eqNL {q : Addr} (ha : EvL ta σ H xs) (hb : Ev tb σ H (.ref q)) (hq : SqL K H q ys) (fx : xs.all fl3 = true) (fy : ys.all fl3 = true) : Ev (tOp (rEqD K) ta tb) σ H (.bl (decide (xs = ys))) :=
  ev_opL1 ha (fun _ e => hb.mono e) fun _ _ h e => rv_eqL (sq_of h) (ex_l e hq) fx fy
theorem ev_neNL {q : Addr} (ha : EvL ta σ H xs) (hb : Ev tb σ H (.ref q)) (hq : SqL K H q ys) (fx : xs.all fl3 = true) (fy : ys.all fl3 = true) : Ev (tOp (rNeD K) ta tb) σ H (.bl (!decide (xs = ys))) :=
  ev_opL1 ha (fun _ e => hb.mono e) fun _ _ h e => rv_neL (sq_of h) (ex_l e hq) fx fy
/-! comprehensions -/
theorem el_lcR2 {ta : TA} {j : Nat} {vs : List Nat} {lo n : Int} (f : Nat → Bool) (g : Nat → V) (h : EvA ta σ H [.int lo, .int n]) (hn : 0 ≤ lo ∧ lo ≤ 40000 ∧ -40000 ≤ n ∧ n ≤ 40000) (hw : ∀ x, wipe ((wipe σ vs).set j (some x)) vs = wipe σ vs)
    (ht : ∀ (i : Nat) H1, Ex H H1 → lo + (i : Int) < n → EvT t ((wipe σ vs).set j (some (.int (lo + (i : Int))))) H1 (f i)) (he : ∀ (i : Nat) H1, Ex H H1 → lo + (i : Int) < n → f i = true → Ev te ((wipe σ vs).set j (some (.int (lo + (i : Int))))) H1 (g i)) :
    EvL (tLc (iRng2 ta) (gName j) t te vs) σ H (given (n - lo).toNat f g) := fun H0 e Q q => h H0 e _ fun H1 e1 => ⟨lo, n, rfl, ⟨by omega, by omega, by omega, by omega⟩, fun Dl hD =>
  lc_range (lo := lo) (n := (n - lo).toNat) (Cw H1 f g Dl) ⟨hD, Ex.new hD, upd_same⟩ (fun i H' hi p => ⟨hw _, cw_turn p (by omega) (ht i H1 (e.trans e1) (by omega)) (fun hf => he i H1 (e.trans e1) (by omega) hf)⟩) (fun H' p => q Dl H' (fresh_back e1 p.1) (e1.trans p.2.1) p.2.2)⟩
theorem given_list {p : V → Bool} {g : V → V} : ∀ xs : List V, given xs.length (fun i => p (xs.getD i .non)) (fun i => g (xs.getD i .non)) = (xs.filter p).map g := by
  intro xs
  have key : ∀ n, n ≤ xs.length → given n (fun i => p (xs.getD i .non)) (fun i => g (xs.getD i .non)) = ((xs.take n).filter p).map g := by
    intro n
    induction n with
    | zero => intro _; rfl
    | succ n ih =>
      intro hn
      have hlt : n < xs.length := hn
      have e : xs.take (n + 1) = xs.take n ++ [xs.getD n .non] := by
        rw [List.take_add_one, List.getElem?_eq_getElem hlt, List.getD_eq_getElem?_getD, List.getElem?_eq_getElem hlt]
        rfl
      rw [e, List.filter_append, List.map_append]
      cases hf : p (xs.getD n .non) with
      | true =>
        rw [given_yes hf, ih (Nat.le_of_lt hlt), List.filter_cons, if_pos hf]
        rfl
      | false =>
        rw [given_no hf, ih (Nat.le_of_lt hlt), List.filter_cons, if_neg (by rw [hf]; decide)]
        rw [List.filter_nil, List.map_nil, List.append_nil]
  rw [key xs.length (Nat.le_refl _), List.take_length]
theorem getD_of {xs : List V} {i : Nat} (h : xs[i]? = some x) : xs.getD i .non = x := by rw [List.getD_eq_getElem?_getD, h]; rfl
theorem el_lcX {vs : List Nat} {j : Nat} (p : V → Bool) (g : V → V) (h : Ev tl σ H (.ref a)) (hx : SqL K H a xs) (hz : xs.length ≤ 40000) (hw : ∀ x, wipe ((wipe σ vs).set j (some x)) vs = wipe σ vs)
    (ht : ∀ x H1, Ex H H1 → x ∈ xs → EvT t ((wipe σ vs).set j (some x)) H1 (p x)) (he : ∀ x H1, Ex H H1 → x ∈ xs → p x = true → Ev te ((wipe σ vs).set j (some x)) H1 (g x)) :
    EvL (tLc (iList K tl) (gName j) t te vs) σ H ((xs.filter p).map g) := by
  rw [← given_list]
  refine el_lcL _ _ h hx hz hw (fun i x H1 e hi => ?_) (fun i x H1 e hi hp => ?_)
  · rw [getD_of hi]
    exact ht x H1 e (List.mem_of_getElem? hi)
  · rw [getD_of hi] at hp ⊢
    exact he x H1 e (List.mem_of_getElem? hi) hp
theorem el_lcXN {vs : List Nat} {j : Nat} (p : V → Bool) (g : V → V) (h : EvL tl σ H xs) (hz : xs.length ≤ 40000) (hw : ∀ x, wipe ((wipe σ vs).set j (some x)) vs = wipe σ vs)
    (ht : ∀ x H1, Ex H H1 → x ∈ xs → EvT t ((wipe σ vs).set j (some x)) H1 (p x)) (he : ∀ x H1, Ex H H1 → x ∈ xs → p x = true → Ev te ((wipe σ vs).set j (some x)) H1 (g x)) :
    EvL (tLc (iList K tl) (gName j) t te vs) σ H ((xs.filter p).map g) := by
  rw [← given_list]
  refine el_lcNL _ _ h hz hw (fun i x H1 e hi => ?_) (fun i x H1 e hi hp => ?_)
  · rw [getD_of hi]
    exact ht x H1 e (List.mem_of_getElem? hi)
  · rw [getD_of hi] at hp ⊢
    exact he x H1 e (List.mem_of_getElem? hi) hp
theorem et_yes : EvT tYes σ H true := fun H1 _ _ q => q H1 (Ex.refl H1)
theorem given_all {n : Nat} {f : Nat → Bool} {g : Nat → V} (h : ∀ i, f i = true) : given n f g = (List.range n).map g := by
  unfold given
  rw [List.filter_eq_self.mpr fun i _ => h i]
end
/-- lists of naturals as Python's -/
def vn (ws : List Nat) : List V := ws.map fun (w : Nat) => V.int (w : Int)
theorem vn_len (ws : List Nat) : (vn ws).length = ws.length := List.length_map ..
theorem vn_ints (ws : List Nat) : vn ws = (ws.map Int.ofNat).map V.int := by
  unfold vn
  rw [List.map_map]
  rfl
theorem vn_at {ws : List Nat} {i : Nat} {x : V} (h : (vn ws)[i]? = some x) : ∃ w : Nat, x = .int (w : Int) ∧ ws[i]? = some w ∧ i < ws.length ∧ w ∈ ws := by
  unfold vn at h
  rw [List.getElem?_map] at h
  cases e : ws[i]? with
  | none =>
    rw [e] at h
    cases h
  | some w =>
    rw [e] at h
    obtain ⟨hi, _⟩ := List.getElem?_eq_some_iff.mp e
    exact ⟨w, (Option.some.inj h).symm, rfl, hi, List.mem_of_getElem? e⟩
theorem vn_get {ws : List Nat} {i w : Nat} (h : ws[i]? = some w) : (vn ws)[i]? = some (.int (w : Int)) := by
  unfold vn
  rw [List.getElem?_map, h]
  rfl
theorem vn_fl3 (ws : List Nat) : (vn ws).all fl3 = true := by
  unfold vn
  rw [List.all_map, List.all_eq_true]
  intro z _
  rfl
theorem vn_snoc (ws : List Nat) (w : Nat) : vn (ws ++ [w]) = vn ws ++ [.int (w : Int)] := by unfold vn; rw [List.map_append]; rfl
theorem vn_inj : ∀ {ws us : List Nat}, vn ws = vn us → ws = us
  | [], [], _ => rfl
  | [], _ :: _, h => by cases h
  | _ :: _, [], h => by cases h
  | w :: ws, u :: us, h => by
    have h1 := List.cons.inj h
    have e : (w : Int) = (u : Int) := V.int.inj h1.1
    rw [Int.ofNat.inj e, vn_inj h1.2]
theorem ints_fl3 (ns : List Int) : (ns.map V.int).all fl3 = true := by
  rw [List.all_map, List.all_eq_true]
  intro z _
  rfl
/-- a place or None -/
def vo : Option Nat → V
  | none => .non
  | some p => .int (p : Int)
def vos (l : List (Option Nat)) : List V := l.map vo
theorem vos_fl3 (l : List (Option Nat)) : (vos l).all fl3 = true := by
  unfold vos
  rw [List.all_map, List.all_eq_true]
  intro z _
  cases z <;> rfl
theorem vos_len (l : List (Option Nat)) : (vos l).length = l.length := List.length_map ..
theorem vos_snoc (l : List (Option Nat)) (o : Option Nat) : vos (l ++ [o]) = vos l ++ [vo o] := by unfold vos; rw [List.map_append]; rfl
theorem vos_at {l : List (Option Nat)} {i : Nat} {x : V} (h : (vos l)[i]? = some x) : ∃ o, x = vo o ∧ l[i]? = some o ∧ i < l.length := by
  unfold vos at h
  rw [List.getElem?_map] at h
  cases e : l[i]? with
  | none =>
    rw [e] at h
    cases h
  | some w =>
    rw [e] at h
    obtain ⟨hi, _⟩ := List.getElem?_eq_some_iff.mp e
    exact ⟨w, (Option.some.inj h).symm, rfl, hi⟩
theorem vo_inj {a b : Option Nat} (h : vo a = vo b) : a = b := by
  cases a with
  | none => cases b with
    | none => rfl
    | some q => cases h
  | some p => cases b with
    | none => cases h
    | some q => rw [Int.ofNat.inj (V.int.inj h)]
theorem vos_inj : ∀ {l m : List (Option Nat)}, vos l = vos m → l = m
  | [], [], _ => rfl
  | [], _ :: _, h => by cases h
  | _ :: _, [], h => by cases h
  | w :: ws, u :: us, h => by
    have h1 := List.cons.inj h
    rw [vo_inj h1.1, vos_inj h1.2]
theorem vos_some (ws : List Nat) : vos (ws.map some) = vn ws := by
  unfold vos vn
  rw [List.map_map]
  rfl
theorem take_succ_of {α : Type} {l : List α} {i : Nat} {x : α} (h : l[i]? = some x) : l.take (i + 1) = l.take i ++ [x] := by
  rw [List.take_add_one, h]
  rfl
end Wm

/-! ### lists of lists -/
namespace Wm
open PySem PySem.Spec PyProof.Rows L2 Evl
def MAt (mk : List V → HO) (H : Hp) (ps : List Addr) (rs : List (List V)) : Prop := Paired (fun p r => H p = some (mk r)) ps rs
abbrev LsAt : Hp → List Addr → List (List V) → Prop := MAt HO.lst
theorem MAt.ex {mk : List V → HO} {H H' : Hp} (e : Ex H H') : ∀ {ps : List Addr} {rs : List (List V)}, MAt mk H ps rs → MAt mk H' ps rs
  | _, _, .nil => .nil
  | _, _, .cons h t => .cons (e _ _ h) (MAt.ex e t)
theorem MAt.app {mk : List V → HO} {H : Hp} : ∀ {ps qs : List Addr} {rs ts : List (List V)}, MAt mk H ps rs → MAt mk H qs ts → MAt mk H (ps ++ qs) (rs ++ ts)
  | _, _, _, _, .nil, h => h
  | _, _, _, _, .cons h t, g => .cons h (MAt.app t g)
theorem MAt.len {mk : List V → HO} {H : Hp} {ps : List Addr} {rs : List (List V)} (h : MAt mk H ps rs) : ps.length = rs.length := Paired.length h
theorem MAt.get {mk : List V → HO} {H : Hp} : ∀ {ps : List Addr} {rs : List (List V)} {i : Nat} {p : Addr}, MAt mk H ps rs → ps[i]? = some p → ∃ r, rs[i]? = some r ∧ H p = some (mk r)
  | _, _, _, _, .nil, h => by cases h
  | _, _, 0, _, .cons h t, e => by
    cases e
    exact ⟨_, rfl, h⟩
  | _, _, i + 1, _, .cons _ t, e => MAt.get (i := i) t e
/-- a new list of new objects; of new lists -/
def EvM (mk : List V → HO) (te : TE) (σ : L2.St) (H : Hp) (rs : List (List V)) : Prop := ∀ H1, Ex H H1 → ∀ Q : VK, (∀ p ps H2, H1 p = none → Ex H1 H2 → H2 p = some (.lst (ps.map V.ref)) → MAt mk H2 ps rs → Q (.ref p) H2) → te σ H1 Q
def EvX (mk : List V → HO) (te : TE) (σ : L2.St) (H : Hp) (xs : List V) : Prop := ∀ H1, Ex H H1 → ∀ Q : VK, (∀ p H2, H1 p = none → Ex H1 H2 → H2 p = some (mk xs) → Q (.ref p) H2) → te σ H1 Q
abbrev EvR := EvM HO.lst
section
variable {K : Kf} {σ : L2.St} {H H' : Hp} {ta tb te tl tx : TE} {t u : TT} {x y z v : V}
theorem er_lcR1 {mk : List V → HO} {ta : TA} {j : Nat} {vs : List Nat} {n : Int} (g : Nat → List V) (h : EvA ta σ H [.int n]) (hn : 0 ≤ n ∧ n ≤ 40000) (hw : ∀ x, wipe ((wipe σ vs).set j (some x)) vs = wipe σ vs)
    (he : ∀ (i : Nat) H1, Ex H H1 → (i : Int) < n → EvX mk te ((wipe σ vs).set j (some (.int (i : Int)))) H1 (g i)) : EvM mk (tLc (iRng1 ta) (gName j) tYes te vs) σ H ((List.range n.toNat).map g) := fun H0 e Q q => h H0 e _ fun H1 e1 => ⟨n, rfl, by omega, by omega, fun Dl hD =>
  lc_range (lo := 0) (n := n.toNat) (fun i H' => Ex H1 H' ∧ ∃ ps : List Addr, H' Dl = some (.lst (ps.map V.ref)) ∧ MAt mk H' ps ((List.range i).map g) ∧ Dl ∉ ps) ⟨Ex.new hD, [], upd_same, .nil, List.not_mem_nil⟩
    (fun i H' hi ⟨eH, ps, hl, hp, hn2⟩ => by
      have e0 : (0 : Int) + (i : Int) = (i : Int) := Int.zero_add _
      refine ⟨hw _, ?_⟩
      show te _ H' _
      have q2 := he i H' ((e.trans e1).trans eH) (by omega)
      rw [← e0] at q2
      refine q2 H' (Ex.refl _) _ fun p H2 np e2 h2 => ?_
      have hl2 := e2 Dl _ hl
      have npD : p ≠ Dl := fun z => by
        rw [z] at np
        rw [np] at hl
        cases hl
      refine ⟨_, hl2, ?_, (eH.trans e2).mut hD, ps ++ [p], ?_, ?_, ?_⟩
      · have := hp.len
        rw [List.length_map, List.length_range] at this
        rw [List.length_map, this]
        exact sz_lt (by omega)
      · rw [upd_same, List.map_append]
        rfl
      · rw [List.range_succ, List.map_append]
        have k1 : ∀ {qs : List Addr} {rs : List (List V)}, Dl ∉ qs → MAt mk H2 qs rs → MAt mk (upd H2 Dl (.lst (ps.map V.ref ++ [.ref p]))) qs rs := by
          intro qs rs hd h
          induction h with
          | nil => exact .nil
          | cons a b ih =>
            rw [List.mem_cons, not_or] at hd
            exact .cons (by rw [upd_ne (Ne.symm hd.1)]; exact a) (ih hd.2)
        exact (k1 hn2 (hp.ex e2)).app (.cons (by rw [upd_ne npD]; exact h2) .nil)
      · rw [List.mem_append, List.mem_singleton, not_or]
        exact ⟨hn2, Ne.symm npD⟩)
    (fun H' ⟨eH, ps, hl, hp, _⟩ => q Dl ps H' (fresh_back e1 hD) (e1.trans eH) hl hp)⟩
theorem er_cat {p : Addr} {ps : List Addr} {rs ts : List (List V)} (ha : Ev ta σ H (.ref p)) (hp : H p = some (.lst (ps.map V.ref))) (hl : LsAt H ps rs) (hb : EvR tb σ H ts) (hz : rs.length + ts.length ≤ 100000) : EvR (tOp rCat ta tb) σ H (rs ++ ts) := fun H1 e Q q =>
  ha H1 e _ fun H2 e2 => hb H2 (e.trans e2) _ fun b qs H3 _ e3 hb3 hq => rv_cat (((e.trans e2).trans e3) p _ hp) hb3 (by rw [List.length_map, List.length_map, hl.len, hq.len]; exact hz) fun l hl2 =>
    q l (ps ++ qs) _ (fresh_back (e2.trans e3) hl2) ((e2.trans e3).trans (Ex.new hl2)) (by rw [upd_same, List.map_append]) (((hl.ex ((e.trans e2).trans e3)).app hq).ex (Ex.new hl2))
theorem s_asgR {i : Nat} {rs : List (List V)} {D : Ends} (h : EvR te σ H rs) (k : ∀ p ps H1, H p = none → Ex H H1 → H1 p = some (.lst (ps.map V.ref)) → LsAt H1 ps rs → D.nx (σ.set i (some (.ref p))) H1) : tAsg te (gName i) D σ H := h H (Ex.refl H) _ fun p ps H1 hp e h1 h2 => k p ps H1 hp e h1 h2
theorem q_asgR {i : Nat} {rs : List (List V)} {D : Ends} {tz : TS} (h : EvR te σ H rs) (k : ∀ p ps H1, H p = none → Ex H H1 → H1 p = some (.lst (ps.map V.ref)) → LsAt H1 ps rs → tz D (σ.set i (some (.ref p))) H1) : tSeq (tAsg te (gName i)) tz D σ H := s_asgR (D := { D with nx := tz D }) h k
/-- [[]] -/
theorem er_nil1 : EvR (tLst (tCons (tLst tNil) tNil)) σ H [[]] := fun H1 e Q q => ⟨Nat.zero_le _, fun p hp => ⟨sz_of (show 1 ≤ 100000 by decide), fun l hl => by
  have npl : p ≠ l := fun z => by
    rw [z, upd_same] at hl
    cases hl
  refine q l [p] _ (fresh_back (Ex.new hp) hl) ((Ex.new hp).trans (Ex.new hl)) upd_same (.cons ?_ .nil)
  rw [upd_ne npl, upd_same]⟩⟩
/-- how many turns give -/
theorem given_count {α : Type} (f : α → Bool) (d : α) (g : Nat → V) (l : List α) : (given l.length (fun i => f (l.getD i d)) g).length = (l.filter f).length := by
  unfold given
  rw [List.length_map]
  have key : ∀ n, n ≤ l.length → ((List.range n).filter fun i => f (l.getD i d)).length = ((l.take n).filter f).length := by
    intro n
    induction n with
    | zero => intro _; rfl
    | succ n ih =>
      intro hn
      have hlt : n < l.length := hn
      have e : l.take (n + 1) = l.take n ++ [l.getD n d] := by
        rw [List.take_add_one, List.getElem?_eq_getElem hlt, List.getD_eq_getElem?_getD, List.getElem?_eq_getElem hlt]
        rfl
      rw [e, List.range_succ, List.filter_append, List.filter_append, List.length_append, List.length_append, ih (Nat.le_of_lt hlt)]
      congr 1
      cases hf : f (l.getD n d) <;> simp only [List.filter_cons, List.filter_nil, hf, if_true, Bool.false_eq_true, if_false, List.length_cons, List.length_nil]
  rw [key l.length (Nat.le_refl _), List.take_length]
end
theorem inV_vos (l : List (Option Nat)) : inV .non (vos l) = decide (none ∈ l) := by
  unfold inV vos
  rw [List.any_map, Bool.eq_iff_iff, List.any_eq_true, decide_eq_true_eq]
  constructor
  · rintro ⟨o, ho, e⟩
    cases o with
    | none => exact ho
    | some p => exact Bool.noConfusion e
  · intro h
    exact ⟨none, h, rfl⟩
theorem vos_flat (l : List (Option Nat)) : (vos l).all flatV = true := by
  unfold vos
  rw [List.all_map, List.all_eq_true]
  intro z _
  cases z <;> rfl
end Wm

/-! ### conditional stores, pairs -/
namespace Wm
open PySem PySem.Spec PyProof.Rows L2 Evl
section
variable {K : Kf} {σ : L2.St} {H H' : Hp} {ta tb te tl tx : TE} {t u : TT} {x y z v : V} {D : Ends} {tz : TS}
/-- if c: x = e, told by a property of what x holds behind it -/
theorem q_ifP {b : Bool} {i : Nat} (P : V → Prop) (h : EvT t σ H b) (h1 : b = true → ∃ v, Ev te σ H v ∧ P v) (h2 : b = false → ∃ v, σ.set i (some v) = σ ∧ P v) (k : ∀ v H1, P v → Ex H H1 → tz D (σ.set i (some v)) H1) : tSeq (tIfS t (tAsg te (gName i)) tNext) tz D σ H :=
  q_when h (fun hb H1 e1 => by
    obtain ⟨v, hv, pv⟩ := h1 hb
    exact s_asg (D := { D with nx := tz D }) (hv.mono e1) fun H2 e2 => k v H2 pv (e1.trans e2)) (fun hb H1 e1 => by
    obtain ⟨v, hv, pv⟩ := h2 hb
    have g := k v H1 pv e1
    rw [hv] at g
    exact g)
/-- a, b = a pair that is made on the way -/
def EvPair (te : TE) (σ : L2.St) (H : Hp) (P : V → V → Hp → Prop) : Prop := ∀ H1, Ex H H1 → ∀ Q : VK, (∀ p x y H2, Ex H1 H2 → H2 p = some (.tup [x, y]) → P x y H2 → Q (.ref p) H2) → te σ H1 Q
theorem q_asg2 {i j : Nat} {P : V → V → Hp → Prop} (h : EvPair te σ H P) (k : ∀ x y H1, Ex H H1 → P x y H1 → tz D ((σ.set i (some x)).set j (some y)) H1) : tSeq (tAsg te (gTup K 2 (gCons (gName i) (gCons (gName j) gNil)))) tz D σ H :=
  h H (Ex.refl H) _ fun p x y H1 e hp hP => ⟨p, [x, y], rfl, st_of hp, rfl, x, [y], rfl, y, [], rfl, rfl, k x y H1 e hP⟩
theorem ep_call {sp : Sp} {E : XK} {ta : TA} {vs : List V} {P : V → V → Hp → Prop} (h : EvA ta σ H vs) (hs : ∀ H1, Ex H H1 → ∀ Q : VK, (∀ p x y H2, Ex H1 H2 → H2 p = some (.tup [x, y]) → P x y H2 → Q (.ref p) H2) → ∀ E : XK, sp vs H1 Q E) : EvPair (tCall sp [] E ta) σ H P := fun H1 e Q q =>
  h H1 e _ fun H2 e2 => by
    rw [List.append_nil]
    exact hs H2 (e.trans e2) Q (fun p x y H3 e3 hp hP => q p x y H3 (e2.trans e3) hp hP) E
theorem mod_nat (c : Int) {m : Int} {n : Nat} (h : 0 < m) (hm : m ≤ n) : ∃ w : Nat, c % m = (w : Int) ∧ w < n := by
  have h1 := Int.emod_nonneg c (show m ≠ 0 by omega)
  have h2 := Int.emod_lt_of_pos c h
  exact ⟨(c % m).toNat, by omega, by omega⟩
theorem tuple_ret {xs : List V} {Q : VK} (h : EvU te σ H xs) (k : ∀ p H1, H p = none → Ex H H1 → H1 p = some (.tup xs) → Q (.ref p) H1) : tRet te { nx := D.nx, rt := Q } σ H := s_retU (D := { nx := D.nx, rt := Q }) h k
end
end Wm

/-! ### for x in reversed(range(n)); counts by comprehensions -/
namespace Wm
open PySem PySem.Spec PyProof.Rows L2 Evl
section
variable {K : Kf} {σ : L2.St} {H H' : Hp} {ta tb te tl tx : TE} {t u : TT} {x y z v : V} {D : Ends} {tz tu : TS}
theorem s_forRev {j n : Nat} (h : Ev te σ H (.int (n : Int))) (hn : n ≤ 100000) (Pv : Nat → L2.St → Hp → Prop) (h0 : ∀ H1, Ex H H1 → Pv 0 σ H1)
    (hs : ∀ (i p : Nat) σ' H', i + p + 1 = n → Pv i σ' H' → tu { D with nx := Pv (i + 1), ct := Pv (i + 1), bk := D.nx } (σ'.set j (some (.int (p : Int)))) H') (hd : ∀ σ' H', Pv n σ' H' → D.nx σ' H') : tFor (iRevR (tRg1 te)) (gName j) tu D σ H :=
  h H (Ex.refl H) _ fun H1 e => ⟨(n : Int), rfl, by decide, by decide, by omega, by omega, by
    have en : ((n : Int) - 0).toNat = n := by omega
    rw [en]
    exact for_rangeC Pv (h0 H1 e) (fun i σ' H' hi p => by
      have e0 : (0 : Int) + ((n : Nat) : Int) - 1 + (i : Nat) * (-1) = ((n - 1 - i : Nat) : Int) := by omega
      rw [e0]
      exact hs i (n - 1 - i) σ' H' (by omega) p) hd⟩
theorem q_forRev {j n : Nat} (h : Ev te σ H (.int (n : Int))) (hn : n ≤ 100000) (Pv : Nat → L2.St → Hp → Prop) (h0 : ∀ H1, Ex H H1 → Pv 0 σ H1)
    (hs : ∀ (i p : Nat) σ' H', i + p + 1 = n → Pv i σ' H' → tu { D with nx := Pv (i + 1), ct := Pv (i + 1), bk := tz D } (σ'.set j (some (.int (p : Int)))) H') (hd : ∀ σ' H', Pv n σ' H' → tz D σ' H') : tSeq (tFor (iRevR (tRg1 te)) (gName j) tu) tz D σ H :=
  s_forRev (D := { D with nx := tz D }) h hn Pv h0 hs hd
/-- len([w for w in ws if test]) -/
theorem ev_count {a : Addr} {ws : List Nat} {j : Nat} {vs : List Nat} (p : Nat → Bool) (h : Ev tl σ H (.ref a)) (hx : SqL K H a (vn ws)) (hz : ws.length ≤ 40000) (hw : ∀ x, wipe ((wipe σ vs).set j (some x)) vs = wipe σ vs)
    (hj : ∀ x : V, ((wipe σ vs).set j (some x))[j]? = some (some x)) (ht : ∀ (w : Nat) H1, Ex H H1 → w ∈ ws → EvT t ((wipe σ vs).set j (some (.int (w : Int)))) H1 (p w)) :
    Ev (tCB (rLenS K) (tCons (tLc (iList K tl) (gName j) t (tVar j) vs) tNil)) σ H (.int ((ws.countP p : Nat) : Int)) := by
  have q : V → Bool := fun v => match v with
    | .int i => p i.toNat
    | _ => false
  refine ev_is (ev_lenN (el_lcX (K := K) (xs := vn ws) (fun v => match v with | .int i => p i.toNat | _ => false) id h hx (by rw [vn_len]; exact hz) hw (fun x H1 e hm => ?_) (fun x H1 e hm _ => ev_var (hj x)))) ?_
  · unfold vn at hm
    obtain ⟨w, hw2, rfl⟩ := List.mem_map.mp hm
    exact ht w H1 e hw2
  · rw [List.length_map]
    refine congrArg (fun n : Nat => V.int (n : Int)) ?_
    unfold vn
    rw [List.filter_map, List.length_map, List.countP_eq_length_filter]
    rfl
end
end Wm

/-! ### lists of which only a property is told; sorted pairs -/
namespace Wm
open PySem PySem.Spec PyProof.Rows L2 Evl
def EvLP (te : TE) (σ : L2.St) (H : Hp) (P : List V → Prop) : Prop := ∀ H1, Ex H H1 → ∀ Q : VK, (∀ p xs H2, H1 p = none → Ex H1 H2 → H2 p = some (.lst xs) → P xs → Q (.ref p) H2) → te σ H1 Q
section
variable {X : Cx}
theorem cr_max2 (hc : X.calm = true) : CallR X (.builtin "max") rMax2 := call_max2 hc
def rMin2 : List V → Hp → VK → Prop := fun xs H Q => ∃ i j, xs = [.int i, .int j] ∧ Q (.int (if j < i then j else i)) H
theorem cr_min2 (hc : X.calm = true) : CallR X (.builtin "min") rMin2 := call_min2 hc
end
section
variable {K : Kf} {σ : L2.St} {H H' : Hp} {ta tb te tl tx : TE} {t u : TT} {x y z v : V} {D : Ends} {tz tu : TS}
theorem ev_min2 {i j : Int} (ha : Ev ta σ H (.int i)) (hb : Ev tb σ H (.int j)) : Ev (tCB rMin2 (tCons ta (tCons tb tNil))) σ H (.int (if j < i then j else i)) := fun H1 e Q q =>
  ha H1 e _ fun H2 e2 => hb H2 (e.trans e2) _ fun H3 e3 => ⟨i, j, rfl, q H3 (e2.trans e3)⟩
theorem s_asgLP {i : Nat} {P : List V → Prop} (h : EvLP te σ H P) (k : ∀ p xs H1, H p = none → Ex H H1 → H1 p = some (.lst xs) → P xs → D.nx (σ.set i (some (.ref p))) H1) : tAsg te (gName i) D σ H := h H (Ex.refl H) _ k
theorem q_asgLP {i : Nat} {P : List V → Prop} (h : EvLP te σ H P) (k : ∀ p xs H1, H p = none → Ex H H1 → H1 p = some (.lst xs) → P xs → tz D (σ.set i (some (.ref p))) H1) : tSeq (tAsg te (gName i)) tz D σ H := s_asgLP (D := { D with nx := tz D }) h k
theorem s_retLP {P : List V → Prop} (h : EvLP te σ H P) (k : ∀ p xs H1, H p = none → Ex H H1 → H1 p = some (.lst xs) → P xs → D.rt (.ref p) H1) : tRet te D σ H := h H (Ex.refl H) _ k
theorem lp_of {P : List V → Prop} {xs : List V} (h : EvL te σ H xs) (hp : P xs) : EvLP te σ H P := fun H1 e Q q => h H1 e Q fun p H2 np e2 h2 => q p xs H2 np e2 h2 hp
theorem lp_imp {P P' : List V → Prop} (h : EvLP te σ H P) (hp : ∀ xs, P xs → P' xs) : EvLP te σ H P' := fun H1 e Q q => h H1 e Q fun p xs H2 np e2 h2 h3 => q p xs H2 np e2 h2 (hp xs h3)
theorem lp_call {sp : Sp} {E : XK} {ta : TA} {vs : List V} {P : List V → Prop} (h : EvA ta σ H vs) (hs : ∀ H1, Ex H H1 → ∀ Q : VK, (∀ xs, P xs → RetL xs H1 Q) → ∀ E : XK, sp vs H1 Q E) : EvLP (tCall sp [] E ta) σ H P := fun H1 e Q q =>
  h H1 e _ fun H2 e2 => by
    rw [List.append_nil]
    exact hs H2 (e.trans e2) Q (fun xs hP p H3 hp e3 h3 => q p xs H3 (fresh_back e2 hp) (e2.trans e3) h3 hP) E
/-- a comprehension over such a list -/
theorem lp_lc {vs : List Nat} {j : Nat} {P : List V → Prop} (p : V → Bool) (g : V → V) (h : EvLP tl σ H P) (hz : ∀ xs, P xs → xs.length ≤ 40000) (hw : ∀ x, wipe ((wipe σ vs).set j (some x)) vs = wipe σ vs)
    (ht : ∀ xs x H1, P xs → Ex H H1 → x ∈ xs → EvT t ((wipe σ vs).set j (some x)) H1 (p x)) (he : ∀ xs x H1, P xs → Ex H H1 → x ∈ xs → p x = true → Ev te ((wipe σ vs).set j (some x)) H1 (g x)) :
    EvLP (tLc (iList K tl) (gName j) t te vs) σ H (fun ys => ∃ xs, P xs ∧ ys = (xs.filter p).map g) := fun H0 e Q q => h H0 e _ fun a xs H1 ha e1 hx hP => ⟨a, rfl, ⟨xs, sq_of hx⟩, fun Dl hD =>
  lc_list (xs := xs) (Cw H1 (fun i => p (xs.getD i .non)) (fun i => g (xs.getD i .non)) Dl) ⟨hD, Ex.new hD, upd_same⟩ (fun i H' _ pp => sq_of (pp.2.1 a _ hx)) (fun i x H' hi pp => ⟨hw x, cw_turn pp (by have := (List.getElem?_eq_some_iff.mp hi).1; have := hz xs hP; omega)
      (by rw [getD_of hi]; exact ht xs x H1 hP (e.trans e1) (List.mem_of_getElem? hi)) (fun hf => by rw [getD_of hi] at hf ⊢; exact he xs x H1 hP (e.trans e1) (List.mem_of_getElem? hi) hf)⟩)
    (fun H' pp => q Dl _ H' (fresh_back e1 pp.1) (e1.trans pp.2.1) pp.2.2 ⟨xs, hP, given_list xs⟩)⟩
/-- what stands at a reference to a pair of ints -/
def pairAt (H : Hp) : V → Int × Int
  | .ref p => match H p with
    | some (.tup [.int a, .int b]) => (a, b)
    | _ => (0, 0)
  | _ => (0, 0)
theorem pairAt_is {H : Hp} {p : Addr} {a b : Int} (h : H p = some (.tup [.int a, .int b])) : pairAt H (.ref p) = (a, b) := by
  simp only [pairAt, h]
/-- sorted([(f i, i) for ..]): references to the pairs, in some order -/
theorem sorted_pairs {ta : TE} {n : Nat} {f : Nat → Int} (h : EvM HO.tup ta σ H ((List.range n).map fun i => [V.int (f i), V.int (i : Int)])) :
    ∀ H1, Ex H H1 → ∀ Q : VK, (∀ p zs H2, H1 p = none → Ex H1 H2 → H2 p = some (.lst zs) → (∀ x ∈ zs, ∃ q i, x = .ref q ∧ i < n ∧ H2 q = some (.tup [.int (f i), .int (i : Int)])) → (zs.map fun x => (pairAt H2 x).2.toNat).Perm (List.range n) → Q (.ref p) H2) → tCB (rSortedPO K) (tCons ta tNil) σ H1 Q := fun H1 e Q q =>
  h H1 e _ fun p ps H2 np e2 hp hm => by
    have hmem : ∀ x ∈ ps.map V.ref, ∃ q i, x = .ref q ∧ i < n ∧ H2 q = some (.tup [.int (f i), .int (i : Int)]) := by
      intro x hx
      obtain ⟨q, hq, rfl⟩ := List.mem_map.mp hx
      obtain ⟨i, hi⟩ := List.mem_iff_getElem?.mp hq
      obtain ⟨r, hr, h3⟩ := hm.get hi
      rw [List.getElem?_map] at hr
      by_cases hin : i < n
      · rw [List.getElem?_range hin] at hr
        cases hr
        exact ⟨q, i, rfl, hin, h3⟩
      · rw [List.getElem?_eq_none (by rw [List.length_range]; omega)] at hr
        cases hr
    refine ⟨p, ps.map V.ref, pairAt H2, rfl, sq_of hp, fun x hx => ?_, fun ys l hs hb hl => ?_⟩
    · obtain ⟨q, i, rfl, hin, h3⟩ := hmem x hx
      exact ⟨q, rfl, by rw [pairAt_is h3]; exact h3⟩
    · refine q l ys _ (fresh_back e2 hl) (e2.trans (Ex.new hl)) upd_same (fun x hx => ?_) ?_
      · obtain ⟨q, i, rfl, hin, h3⟩ := hmem x (hb.perm.mem_iff.mp hx)
        exact ⟨q, i, rfl, hin, Ex.new hl _ _ h3⟩
      · have h1 : (ys.map fun x => (pairAt (upd H2 l (.lst ys)) x).2.toNat).Perm ((ps.map V.ref).map fun x => (pairAt (upd H2 l (.lst ys)) x).2.toNat) := hb.perm.map _
        have h2 : ((ps.map V.ref).map fun x => (pairAt (upd H2 l (.lst ys)) x).2.toNat) = List.range n := by
          refine List.ext_getElem? fun i => ?_
          rw [List.getElem?_map, List.getElem?_map]
          cases hpi : ps[i]? with
          | none =>
            have hl := hm.len
            rw [List.length_map, List.length_range] at hl
            rw [List.getElem?_eq_none_iff] at hpi
            rw [List.getElem?_eq_none (by rw [List.length_range]; omega)]
            rfl
          | some q =>
            obtain ⟨r, hr, h3⟩ := hm.get hpi
            rw [List.getElem?_map] at hr
            by_cases hin : i < n
            · rw [List.getElem?_range hin] at hr ⊢
              cases hr
              show some ((pairAt (upd H2 l (.lst ys)) (.ref q)).2.toNat) = some i
              rw [pairAt_is (Ex.new hl _ _ h3), Int.toNat_natCast]
            · rw [List.getElem?_eq_none (by rw [List.length_range]; omega)] at hr
              cases hr
        rw [h2] at h1
        exact h1
/-- x = e, of which P is told -/
theorem q_asgG {i : Nat} {P : V → Hp → Prop} (h : ∀ Q : VK, (∀ v H2, P v H2 → Q v H2) → te σ H Q) (k : ∀ v H2, P v H2 → tz D (σ.set i (some v)) H2) : tSeq (tAsg te (gName i)) tz D σ H := h _ k
theorem q_sorted_pairs {i n : Nat} {f : Nat → Int} {ta : TE} (h : EvM HO.tup ta σ H ((List.range n).map fun i => [V.int (f i), V.int (i : Int)]))
    (k : ∀ p zs H2, H p = none → Ex H H2 → H2 p = some (.lst zs) → (∀ x ∈ zs, ∃ q i, x = .ref q ∧ i < n ∧ H2 q = some (.tup [.int (f i), .int (i : Int)])) → (zs.map fun x => (pairAt H2 x).2.toNat).Perm (List.range n) → tz D (σ.set i (some (.ref p))) H2) :
    tSeq (tAsg (tCB (rSortedPO K) (tCons ta tNil)) (gName i)) tz D σ H := sorted_pairs h H (Ex.refl H) _ k
/-- [e for x, y in pairs] -/
theorem el_lcPairs {a : Addr} {zs : List V} {i j : Nat} {vs : List Nat} (g : V → V) (h : Ev tl σ H (.ref a)) (hx : SqL K H a zs) (hz : zs.length ≤ 40000) (hp : ∀ x ∈ zs, ∃ q u v, x = .ref q ∧ H q = some (.tup [.int u, .int v]))
    (hw : ∀ x y, wipe (((wipe σ vs).set i (some x)).set j (some y)) vs = wipe σ vs) (he : ∀ x H1, Ex H H1 → x ∈ zs → Ev te (((wipe σ vs).set i (some (.int (pairAt H x).1))).set j (some (.int (pairAt H x).2))) H1 (g x)) :
    EvL (tLc (iList K tl) (gTup K 2 (gCons (gName i) (gCons (gName j) gNil))) tYes te vs) σ H (zs.map g) := fun H0 e Q q => h H0 e _ fun H1 e1 => ⟨a, rfl, ⟨zs, ex_l (e.trans e1) hx⟩, fun Dl hD =>
  lc_list (xs := zs) (Cw H1 (fun _ => true) (fun i => g (zs.getD i .non)) Dl) ⟨hD, Ex.new hD, upd_same⟩ (fun i H' _ pp => ex_l ((e.trans e1).trans pp.2.1) hx) (fun n x H' hi pp => by
      have hm := List.mem_of_getElem? hi
      obtain ⟨q2, u, v, ex2, h2⟩ := hp x hm
      have hn := (List.getElem?_eq_some_iff.mp hi).1
      have eP : pairAt H x = (u, v) := by rw [ex2]; exact pairAt_is h2
      refine ⟨q2, _, ex2, st_of (((e.trans e1).trans pp.2.1) _ _ h2), rfl, .int u, [.int v], rfl, .int v, [], rfl, rfl, hw _ _, ?_⟩
      refine cw_turn pp (by omega) et_yes fun _ => ?_
      have q3 := he x H1 (e.trans e1) hm
      rw [eP] at q3
      rw [getD_of hi]
      exact q3)
    (fun H' pp => by
      have e3 : given zs.length (fun _ => true) (fun i => g (zs.getD i .non)) = zs.map g := by
        have := given_list (p := fun _ => true) (g := g) zs
        rw [this, List.filter_eq_self.mpr fun _ _ => rfl]
      have h3 := pp.2.2
      rw [e3] at h3
      exact q Dl H' (fresh_back e1 pp.1) (e1.trans pp.2.1) h3)⟩
end
end Wm

/-! MATH: mooring at a quay -/
namespace Wm
theorem snocInd {α : Type} {P : List α → Prop} (h0 : P []) (hs : ∀ l x, P l → P (l ++ [x])) : ∀ {l : List α}, P l := by
  intro l
  have key : ∀ m : List α, P m.reverse := by
    intro m
    induction m with
    | nil => exact h0
    | cons x m ih =>
      rw [List.reverse_cons]
      exact hs _ _ ih
  have := key l.reverse
  rw [List.reverse_reverse] at this
  exact this
/-- the first free place from w on -/
def firstFree (long : Nat) (tk : Nat → Bool) (w : Nat) : Option Nat := (List.range' w (long - w)).find? fun p => !tk p
def moorStep (long : Nat) (acc : List (Option Nat)) (w : Nat) : List (Option Nat) := acc ++ [firstFree long (fun p => decide (some p ∈ acc)) w]
def mooredL (long : Nat) (ws : List Nat) : List (Option Nat) := ws.foldl (moorStep long) []
theorem mooredL_snoc (long : Nat) (ws : List Nat) (w : Nat) : mooredL long (ws ++ [w]) = mooredL long ws ++ [firstFree long (fun p => decide (some p ∈ mooredL long ws)) w] := by
  unfold mooredL
  rw [List.foldl_append]
  rfl
theorem mooredL_take {long : Nat} {ws : List Nat} {i w : Nat} (h : ws[i]? = some w) : mooredL long (ws.take (i + 1)) = mooredL long (ws.take i) ++ [firstFree long (fun p => decide (some p ∈ mooredL long (ws.take i))) w] := by
  rw [List.take_add_one, h]
  exact mooredL_snoc long (ws.take i) w
theorem foldl_len (long : Nat) : ∀ (ws : List Nat) (acc : List (Option Nat)), (ws.foldl (moorStep long) acc).length = acc.length + ws.length
  | [], acc => rfl
  | w :: ws, acc => by
    show (ws.foldl (moorStep long) (moorStep long acc w)).length = _
    rw [foldl_len long ws]
    unfold moorStep
    rw [List.length_append, List.length_cons, List.length_cons, List.length_nil]
    omega
theorem mooredL_len (long : Nat) (ws : List Nat) : (mooredL long ws).length = ws.length := by
  unfold mooredL
  rw [foldl_len]
  exact Nat.zero_add _
/-- what firstFree finds -/
theorem firstFree_some {long w p : Nat} {tk : Nat → Bool} (h : firstFree long tk w = some p) : w ≤ p ∧ p < long ∧ tk p = false ∧ ∀ q, w ≤ q → q < p → tk q = true := by
  unfold firstFree at h
  obtain ⟨h1, i, hi, e, hlt⟩ := List.find?_eq_some_iff_getElem.mp h
  rw [List.getElem_range'] at e
  rw [List.length_range'] at hi
  refine ⟨by omega, by omega, by simpa using h1, fun q hq hqp => ?_⟩
  have h2 := hlt (q - w) (by omega)
  rw [List.getElem_range'] at h2
  have e2 : w + 1 * (q - w) = q := by omega
  rw [e2] at h2
  simpa using h2
theorem firstFree_none {long w : Nat} {tk : Nat → Bool} (h : firstFree long tk w = none) : ∀ q, w ≤ q → q < long → tk q = true := by
  unfold firstFree at h
  intro q hq hl
  have h2 := List.find?_eq_none.mp h q (by rw [List.mem_range'_1]; omega)
  simpa using h2
theorem firstFree_is {long w p : Nat} {tk : Nat → Bool} (h1 : w ≤ p) (h2 : p < long) (h3 : tk p = false) (h4 : ∀ q, w ≤ q → q < p → tk q = true) : firstFree long tk w = some p := by
  cases e : firstFree long tk w with
  | none =>
    have := firstFree_none e p h1 h2
    rw [h3] at this
    cases this
  | some q =>
    obtain ⟨a, b, c, d⟩ := firstFree_some e
    by_cases hlt : q < p
    · rw [h4 q a hlt] at c
      cases c
    · by_cases hgt : p < q
      · rw [d p h1 hgt] at h3
        cases h3
      · have : q = p := by omega
        rw [this]
theorem firstFree_isNone {long w : Nat} {tk : Nat → Bool} (h : ∀ q, w ≤ q → q < long → tk q = true) : firstFree long tk w = none := by
  cases e : firstFree long tk w with
  | none => rfl
  | some p =>
    obtain ⟨a, b, c, d⟩ := firstFree_some e
    rw [h p a b] at c
    cases c
theorem mooredL_lt {long : Nat} {ws : List Nat} : ∀ {p : Nat}, some p ∈ mooredL long ws → p < long := by
  refine snocInd (P := fun ws => ∀ {p : Nat}, some p ∈ mooredL long ws → p < long) (fun h => by cases h) (fun ws w ih => ?_)
  · intro p h
    rw [mooredL_snoc, List.mem_append, List.mem_singleton] at h
    rcases h with h | h
    · exact ih h
    · exact (firstFree_some h.symm).2.1
end Wm

/-! MATH: a row of a quay -/
namespace Wm
structure Row (long : Nat) (ws : List Nat) : Prop where
  lo : 1 ≤ long
  hi : long ≤ 40
  few : ws.length ≤ long
  lt : ∀ w ∈ ws, w < long
end Wm

/-! MATH: what flows over from place to place -/
namespace Wm
def cAt (ws : List Nat) (p : Nat) : Nat := ws.countP fun w => decide (w = p)
def cnt (ws : List Nat) (p : Nat) : Nat := ws.countP fun w => decide (p ≤ w)
/-- how many boats come to place p from the places before it -/
def over (ws : List Nat) : Nat → Nat
  | 0 => 0
  | p + 1 => over ws p + cAt ws p - 1
theorem cAt_snoc (ws : List Nat) (w p : Nat) : cAt (ws ++ [w]) p = cAt ws p + if w = p then 1 else 0 := by
  unfold cAt
  rw [List.countP_append, List.countP_singleton]
  by_cases e : w = p <;> simp [e]
theorem over_before {ws : List Nat} {w : Nat} : ∀ {p : Nat}, p ≤ w → over (ws ++ [w]) p = over ws p
  | 0, _ => rfl
  | p + 1, h => by
    show over (ws ++ [w]) p + cAt (ws ++ [w]) p - 1 = over ws p + cAt ws p - 1
    rw [over_before (Nat.le_of_lt h), cAt_snoc, if_neg (by omega), Nat.add_zero]
/-- from w on while the places are taken, one boat more -/
theorem over_along {ws : List Nat} {w : Nat} : ∀ {k : Nat}, (∀ q, w ≤ q → q < w + k → 1 ≤ over ws q + cAt ws q) → 1 ≤ k → over (ws ++ [w]) (w + k) = over ws (w + k) + 1
  | 0, _, h => absurd h (by decide)
  | 1, h, _ => by
    show over (ws ++ [w]) w + cAt (ws ++ [w]) w - 1 = over ws w + cAt ws w - 1 + 1
    have := h w (Nat.le_refl _) (by omega)
    rw [over_before (Nat.le_refl w), cAt_snoc, if_pos rfl]
    omega
  | k + 2, h, _ => by
    have ih := over_along (ws := ws) (w := w) (k := k + 1) (fun q h1 h2 => h q h1 (by omega)) (by omega)
    have h2 := h (w + (k + 1)) (by omega) (by omega)
    show over (ws ++ [w]) (w + (k + 1)) + cAt (ws ++ [w]) (w + (k + 1)) - 1 = over ws (w + (k + 1)) + cAt ws (w + (k + 1)) - 1 + 1
    rw [ih, cAt_snoc, if_neg (by omega)]
    omega
/-- at the free place that the boat takes, one boat more stands there -/
theorem over_at {ws : List Nat} {w q : Nat} (hq : w ≤ q) (h : ∀ r, w ≤ r → r < q → 1 ≤ over ws r + cAt ws r) : over (ws ++ [w]) q + cAt (ws ++ [w]) q = over ws q + cAt ws q + 1 := by
  by_cases e : w = q
  · subst e
    rw [over_before (Nat.le_refl w), cAt_snoc, if_pos rfl]
    omega
  · have e2 : q = w + (q - w) := by omega
    have h2 := over_along (ws := ws) (w := w) (k := q - w) (fun r h1 h2 => h r h1 (by omega)) (by omega)
    rw [← e2] at h2
    rw [h2, cAt_snoc, if_neg e]
    omega
theorem over_after {ws : List Nat} {w q : Nat} (hq : w ≤ q) (h : ∀ r, w ≤ r → r < q → 1 ≤ over ws r + cAt ws r) (hz : over ws q + cAt ws q = 0) : ∀ {p : Nat}, q < p → over (ws ++ [w]) p = over ws p := by
  intro p hp
  induction p with
  | zero => omega
  | succ p ih =>
    show over (ws ++ [w]) p + cAt (ws ++ [w]) p - 1 = over ws p + cAt ws p - 1
    by_cases e : p = q
    · rw [e, over_at hq h]
      omega
    · rw [ih (by omega), cAt_snoc, if_neg (by omega), Nat.add_zero]
/-- a place is taken just where a boat comes to it -/
theorem taken_iff {long : Nat} {ws : List Nat} : (∀ w ∈ ws, w < long) → ∀ p, p < long → (some p ∈ mooredL long ws ↔ 1 ≤ over ws p + cAt ws p) := by
  refine snocInd (P := fun ws => (∀ w ∈ ws, w < long) → ∀ p, p < long → (some p ∈ mooredL long ws ↔ 1 ≤ over ws p + cAt ws p)) (fun _ p _ => ?_) (fun ws w ih hw p hp => ?_)
  · have h0 : ∀ p, over [] p = 0 := by
      intro p
      induction p with
      | zero => rfl
      | succ p ih =>
        show over [] p + cAt [] p - 1 = 0
        rw [ih]
        rfl
    rw [h0]
    constructor
    · intro h
      cases h
    · intro h
      exact absurd h (by unfold cAt; simp)
  have ih2 := ih fun x hx => hw x (List.mem_append_left _ hx)
  have hwl := hw w (List.mem_append_right _ (List.mem_singleton.mpr rfl))
  rw [mooredL_snoc, List.mem_append, List.mem_singleton]
  cases e : firstFree long (fun p => decide (some p ∈ mooredL long ws)) w with
  | none =>
    have h1 : ∀ r, w ≤ r → r < long → 1 ≤ over ws r + cAt ws r := fun r a b => (ih2 r b).mp (of_decide_eq_true (firstFree_none e r a b))
    have e3 : ¬ (some p = (none : Option Nat)) := fun z => by cases z
    simp only [e3, or_false]
    rw [ih2 p hp]
    by_cases hwp : w ≤ p
    · rw [over_at hwp fun r a b => h1 r a (by omega)]
      have := h1 p hwp hp
      omega
    · rw [over_before (by omega), cAt_snoc, if_neg (by omega), Nat.add_zero]
  | some q =>
    obtain ⟨a, b, c, d⟩ := firstFree_some e
    have h1 : ∀ r, w ≤ r → r < q → 1 ≤ over ws r + cAt ws r := fun r x y => (ih2 r (by omega)).mp (of_decide_eq_true (d r x y))
    have hz : over ws q + cAt ws q = 0 := by
      have h2 := of_decide_eq_false c
      rw [ih2 q b] at h2
      omega
    rw [ih2 p hp]
    have e3 : (some p = some q) ↔ p = q := ⟨Option.some.inj, congrArg some⟩
    rw [e3]
    by_cases hpq : p = q
    · subst hpq
      rw [over_at a h1]
      omega
    · by_cases hlt : p < q
      · by_cases hwp : w ≤ p
        · rw [over_at hwp fun r x y => h1 r x (by omega)]
          have := h1 p hwp hlt
          omega
        · rw [over_before (by omega), cAt_snoc, if_neg (by omega)]
          omega
      · rw [over_after a h1 hz (by omega), cAt_snoc, if_neg (by omega)]
        omega
/-- as many sail on as flow over behind the last place -/
theorem gone_count {long : Nat} {ws : List Nat} : (∀ w ∈ ws, w < long) → (mooredL long ws).countP (fun o => decide (o = none)) = over ws long := by
  refine snocInd (P := fun ws => (∀ w ∈ ws, w < long) → (mooredL long ws).countP (fun o => decide (o = none)) = over ws long) (fun _ => ?_) (fun ws w ih hw => ?_)
  · have h0 : ∀ p, over [] p = 0 := by
      intro p
      induction p with
      | zero => rfl
      | succ p ih =>
        show over [] p + cAt [] p - 1 = 0
        rw [ih]
        rfl
    rw [h0]
    rfl
  have hw2 : ∀ x ∈ ws, x < long := fun x hx => hw x (List.mem_append_left _ hx)
  have ih2 := ih hw2
  have hwl := hw w (List.mem_append_right _ (List.mem_singleton.mpr rfl))
  have tk := taken_iff (long := long) hw2
  rw [mooredL_snoc, List.countP_append, List.countP_singleton, ih2]
  cases e : firstFree long (fun p => decide (some p ∈ mooredL long ws)) w with
  | none =>
    have h1 : ∀ r, w ≤ r → r < long → 1 ≤ over ws r + cAt ws r := fun r a b => (tk r b).mp (of_decide_eq_true (firstFree_none e r a b))
    have e2 : long = w + (long - w) := by omega
    have h2 := over_along (ws := ws) (w := w) (k := long - w) (fun r a b => h1 r a (by omega)) (by omega)
    rw [← e2] at h2
    rw [h2]
    simp
  | some q =>
    obtain ⟨a, b, c, d⟩ := firstFree_some e
    have h1 : ∀ r, w ≤ r → r < q → 1 ≤ over ws r + cAt ws r := fun r x y => (tk r (by omega)).mp (of_decide_eq_true (d r x y))
    have hz : over ws q + cAt ws q = 0 := by
      have h2 := of_decide_eq_false c
      rw [tk q b] at h2
      omega
    rw [over_after a h1 hz b]
    simp
/-! counts from a place on -/
def cntB (ws : List Nat) (p n : Nat) : Nat := ws.countP fun w => decide (p ≤ w ∧ w < n)
theorem cntB_succ (p n : Nat) (h : p ≤ n) : ∀ ws : List Nat, cntB ws p (n + 1) = cntB ws p n + cAt ws n
  | [] => rfl
  | w :: ws => by
    have ih := cntB_succ p n h ws
    unfold cntB cAt at ih ⊢
    rw [List.countP_cons, List.countP_cons, List.countP_cons, ih]
    by_cases e : w = n
    · subst e
      have h1 : decide (p ≤ w ∧ w < w + 1) = true := decide_eq_true ⟨h, by omega⟩
      have h2 : decide (p ≤ w ∧ w < w) = false := decide_eq_false (by omega)
      simp only [h1, h2, decide_true, if_true, Bool.false_eq_true, if_false]
      omega
    · have h1 : decide (p ≤ w ∧ w < n + 1) = decide (p ≤ w ∧ w < n) := decide_eq_decide.mpr (by omega)
      have h2 : decide (w = n) = false := decide_eq_false e
      simp only [h1, h2, Bool.false_eq_true, if_false]
      omega
theorem cntB_self (ws : List Nat) (n : Nat) : cntB ws n n = 0 := by
  unfold cntB
  rw [List.countP_eq_zero]
  intro w _
  rw [decide_eq_true_eq]
  omega
theorem cntB_cnt {ws : List Nat} {long : Nat} (h : ∀ w ∈ ws, w < long) (p : Nat) : cntB ws p long = cnt ws p := by
  unfold cntB cnt
  refine List.countP_congr fun w hw => ?_
  have := h w hw
  rw [decide_eq_true_eq, decide_eq_true_eq]
  omega
theorem over_ge (ws : List Nat) : ∀ n p, p ≤ n → cntB ws p n ≤ over ws n + (n - p)
  | 0, p, h => by
    have e : p = 0 := by omega
    rw [e, cntB_self]
    omega
  | n + 1, p, h => by
    by_cases e : p = n + 1
    · rw [e, cntB_self]
      omega
    · have h2 : p ≤ n := by omega
      have ih := over_ge ws n p h2
      rw [cntB_succ p n h2]
      show _ ≤ over ws n + cAt ws n - 1 + (n + 1 - p)
      omega
theorem over_is (ws : List Nat) : ∀ n, ∃ p, p ≤ n ∧ cntB ws p n = over ws n + (n - p)
  | 0 => ⟨0, Nat.le_refl _, by rw [cntB_self]; rfl⟩
  | n + 1 => by
    obtain ⟨p, hp, e⟩ := over_is ws n
    by_cases h : 1 ≤ over ws n + cAt ws n
    · refine ⟨p, by omega, ?_⟩
      rw [cntB_succ p n hp, e]
      show _ = over ws n + cAt ws n - 1 + (n + 1 - p)
      omega
    · refine ⟨n + 1, Nat.le_refl _, ?_⟩
      rw [cntB_self]
      show 0 = over ws n + cAt ws n - 1 + (n + 1 - (n + 1))
      omega
/-- point 4 -/
theorem whole_iff {long : Nat} {ws : List Nat} (h : ∀ w ∈ ws, w < long) : none ∉ mooredL long ws ↔ ∀ p, p < long → cnt ws p ≤ long - p := by
  have h1 : none ∉ mooredL long ws ↔ over ws long = 0 := by
    rw [← gone_count h, List.countP_eq_zero]
    constructor
    · intro a o ho
      rw [decide_eq_true_eq]
      intro e
      rw [e] at ho
      exact a ho
    · intro a ho
      exact a none ho (decide_eq_true rfl)
  rw [h1]
  constructor
  · intro e p hp
    have := over_ge ws long p (by omega)
    rw [cntB_cnt h] at this
    omega
  · intro a
    obtain ⟨p, hp, e⟩ := over_is ws long
    rw [cntB_cnt h] at e
    by_cases hpl : p < long
    · have := a p hpl
      omega
    · have e2 : p = long := by omega
      have e3 : cnt ws p = 0 := by
        unfold cnt
        rw [List.countP_eq_zero]
        intro w hw
        have := h w hw
        rw [decide_eq_true_eq]
        omega
      omega
/-- the crowd -/
def CrowdIs (long : Nat) (ws : List Nat) : Option Nat → Prop
  | none => ∀ p, p < long → cnt ws p ≤ long - p
  | some p => p < long ∧ long - p < cnt ws p ∧ ∀ q, p < q → q < long → cnt ws q ≤ long - q
theorem CrowdIs.uniq {long : Nat} {ws : List Nat} {a b : Option Nat} (h : CrowdIs long ws a) (g : CrowdIs long ws b) : a = b := by
  cases a with
  | none => cases b with
    | none => rfl
    | some q =>
      obtain ⟨g1, g2, _⟩ := g
      have := h q g1
      omega
  | some p =>
    obtain ⟨h1, h2, h3⟩ := h
    cases b with
    | none =>
      have := g p h1
      omega
    | some q =>
      obtain ⟨g1, g2, g3⟩ := g
      congr 1
      by_cases l : p < q
      · have := h3 q l g1
        omega
      · by_cases l2 : q < p
        · have := g3 p l2 h1
          omega
        · omega
def crowdL (long : Nat) (ws : List Nat) : Option Nat := (List.range long).foldl (fun o p => if long - p < cnt ws p then some p else o) none
theorem crowdL_is (long : Nat) (ws : List Nat) : CrowdIs long ws (crowdL long ws) := by
  have key : ∀ n, n ≤ long → match (List.range n).foldl (fun o p => if long - p < cnt ws p then some p else o) none with
      | none => ∀ p, p < n → cnt ws p ≤ long - p
      | some p => p < n ∧ long - p < cnt ws p ∧ ∀ q, p < q → q < n → cnt ws q ≤ long - q := by
    intro n
    induction n with
    | zero =>
      intro _ p hp
      omega
    | succ n ih =>
      intro hn
      have ih2 := ih (by omega)
      rw [List.range_succ, List.foldl_append, List.foldl_cons, List.foldl_nil]
      by_cases c : long - n < cnt ws n
      · rw [if_pos c]
        exact ⟨by omega, c, fun q h1 h2 => by omega⟩
      · rw [if_neg c]
        generalize (List.range n).foldl (fun o p => if long - p < cnt ws p then some p else o) none = o at ih2
        cases o with
        | none =>
          intro p hp
          by_cases e : p = n
          · rw [e]
            omega
          · exact ih2 p (by omega)
        | some r =>
          obtain ⟨a, b, d⟩ := ih2
          refine ⟨by omega, b, fun q h1 h2 => ?_⟩
          by_cases e : q = n
          · rw [e]
            omega
          · exact d q h1 (by omega)
  have h := key long (Nat.le_refl _)
  unfold crowdL
  generalize (List.range long).foldl (fun o p => if long - p < cnt ws p then some p else o) none = o at h ⊢
  cases o with
  | none => exact h
  | some p => exact h
theorem cnt_succ (ws : List Nat) (p : Nat) : cnt ws p = cnt ws (p + 1) + cAt ws p := by
  unfold cnt cAt
  induction ws with
  | nil => rfl
  | cons w ws ih =>
    rw [List.countP_cons, List.countP_cons, List.countP_cons, ih]
    by_cases e : w = p
    · subst e
      have h1 : decide (w ≤ w) = true := decide_eq_true (Nat.le_refl _)
      have h2 : decide (w + 1 ≤ w) = false := decide_eq_false (by omega)
      simp only [h1, h2, decide_true, if_true, Bool.false_eq_true, if_false]
      omega
    · have h1 : decide (p ≤ w) = decide (p + 1 ≤ w) := decide_eq_decide.mpr (by omega)
      have h2 : decide (w = p) = false := decide_eq_false e
      simp only [h1, h2, Bool.false_eq_true, if_false]
      omega
theorem cnt_top {ws : List Nat} {long : Nat} (h : ∀ w ∈ ws, w < long) : cnt ws long = 0 := by
  unfold cnt
  rw [List.countP_eq_zero]
  intro w hw
  have := h w hw
  rw [decide_eq_true_eq]
  omega
end Wm

/-! MATH: the same places whatever the order -/
namespace Wm
/-- the taken places, as they were taken -/
def placesOf (l : List (Option Nat)) : List Nat := l.filterMap id
theorem mem_placesOf {l : List (Option Nat)} {p : Nat} : p ∈ placesOf l ↔ some p ∈ l := by
  unfold placesOf
  rw [List.mem_filterMap]
  constructor
  · rintro ⟨o, ho, e⟩
    rw [← show o = some p from e]
    exact ho
  · intro h
    exact ⟨_, h, rfl⟩
theorem placesOf_snoc (l : List (Option Nat)) (o : Option Nat) : placesOf (l ++ [o]) = placesOf l ++ o.toList := by
  unfold placesOf
  rw [List.filterMap_append]
  cases o <;> rfl
theorem placesOf_nodup {long : Nat} {ws : List Nat} : (placesOf (mooredL long ws)).Nodup := by
  refine snocInd (P := fun ws => (placesOf (mooredL long ws)).Nodup) List.nodup_nil fun ws w ih => ?_
  rw [mooredL_snoc, placesOf_snoc]
  cases e : firstFree long (fun p => decide (some p ∈ mooredL long ws)) w with
  | none =>
    rw [show (none : Option Nat).toList = [] from rfl, List.append_nil]
    exact ih
  | some p =>
    have hn : some p ∉ mooredL long ws := of_decide_eq_false (firstFree_some e).2.2.1
    rw [List.nodup_append]
    refine ⟨ih, by simp, fun a ha b hb => ?_⟩
    have hb2 : b = p := by simpa using hb
    rw [hb2]
    intro e2
    rw [e2] at ha
    exact hn (mem_placesOf.mp ha)
theorem cAt_perm {ws us : List Nat} (h : ws.Perm us) (p : Nat) : cAt ws p = cAt us p := h.countP_eq _
theorem over_perm {ws us : List Nat} (h : ws.Perm us) : ∀ p, over ws p = over us p
  | 0 => rfl
  | p + 1 => by
    show over ws p + cAt ws p - 1 = over us p + cAt us p - 1
    rw [over_perm h p, cAt_perm h p]
theorem places_perm {long : Nat} {ws us : List Nat} (h : ws.Perm us) (hw : ∀ w ∈ ws, w < long) : (placesOf (mooredL long ws)).Perm (placesOf (mooredL long us)) := by
  have hu : ∀ w ∈ us, w < long := fun w m => hw w (h.mem_iff.mpr m)
  refine (List.perm_ext_iff_of_nodup placesOf_nodup placesOf_nodup).mpr fun p => ?_
  rw [mem_placesOf, mem_placesOf]
  constructor
  · intro m
    have hp := mooredL_lt m
    rw [taken_iff hu p hp, ← over_perm h, ← cAt_perm h, ← taken_iff hw p hp]
    exact m
  · intro m
    have hp := mooredL_lt m
    rw [taken_iff hw p hp, over_perm h, cAt_perm h, ← taken_iff hu p hp]
    exact m
theorem placesOf_len : ∀ l : List (Option Nat), (placesOf l).length + l.countP (fun o => decide (o = none)) = l.length
  | [] => rfl
  | none :: l => by
    have ih := placesOf_len l
    unfold placesOf at ih ⊢
    rw [List.countP_cons, List.length_cons]
    simp only [List.filterMap_cons, id, decide_true, if_true]
    omega
  | some p :: l => by
    have ih := placesOf_len l
    unfold placesOf at ih ⊢
    rw [List.countP_cons, List.length_cons]
    have e : decide ((some p : Option Nat) = none) = false := decide_eq_false (fun z => by cases z)
    simp only [List.filterMap_cons, id, e, Bool.false_eq_true, if_false, List.length_cons]
    omega
/-- sorted lists of the same members are one -/
theorem sorted_uniq : ∀ {l m : List Int}, l.Perm m → l.Pairwise (· ≤ ·) → m.Pairwise (· ≤ ·) → l = m := fun h a b => h.eq_of_pairwise (fun x y _ _ p q => Int.le_antisymm p q) a b
/-- the most by which they are too many -/
def goneL (long : Nat) (ws : List Nat) (i : Nat) : Int := (List.range i).foldl (fun g p => if (cnt ws p : Int) - ((long : Int) - p) > g then (cnt ws p : Int) - ((long : Int) - p) else g) 0
theorem goneL_succ (long : Nat) (ws : List Nat) (i : Nat) : goneL long ws (i + 1) = if (cnt ws i : Int) - ((long : Int) - i) > goneL long ws i then (cnt ws i : Int) - ((long : Int) - i) else goneL long ws i := by
  unfold goneL
  rw [List.range_succ, List.foldl_append]
  rfl
theorem goneL_is {long : Nat} {ws : List Nat} (h : ∀ w ∈ ws, w < long) : goneL long ws long = (over ws long : Int) := by
  have lo : ∀ i, i ≤ long → goneL long ws i ≤ (over ws long : Int) := by
    intro i
    induction i with
    | zero =>
      intro _
      show (0 : Int) ≤ _
      omega
    | succ i ih =>
      intro hi
      rw [goneL_succ]
      have h1 := over_ge ws long i (by omega)
      rw [cntB_cnt h] at h1
      have h2 := ih (by omega)
      split <;> omega
  have hi : ∀ i p, p < i → (cnt ws p : Int) - ((long : Int) - p) ≤ goneL long ws i := by
    intro i
    induction i with
    | zero =>
      intro p hp
      omega
    | succ i ih =>
      intro p hp
      rw [goneL_succ]
      by_cases e : p = i
      · rw [e]
        split <;> omega
      · have := ih p (by omega)
        split <;> omega
  have h0 : ∀ i, 0 ≤ goneL long ws i := by
    intro i
    induction i with
    | zero => exact Int.le_refl _
    | succ i ih =>
      rw [goneL_succ]
      split <;> omega
  obtain ⟨p, hp, e⟩ := over_is ws long
  rw [cntB_cnt h] at e
  have a := lo long (Nat.le_refl _)
  by_cases hpl : p < long
  · have := hi long p hpl
    omega
  · have e2 : p = long := by omega
    rw [e2, cnt_top h] at e
    have := h0 long
    omega
end Wm

namespace Wm
open PySem PySem.Spec PyProof.Rows L2 Evl
def top (i : Nat) : Stmt := PySem.Challenge.pw_wishmoor_k03_whole_any_order.main.body.getD i (.Pass ⟨0, 0, 0, 0⟩)
section
variable {P : Program} {w : World} {K : Kf} {mg : Mg} {base : Heap}
abbrev s_l_cell_at : Stmt := top 9
abbrev N_l_cell_at : List Str := ["script", "k"]
theorem sc_l_cell_at : FnScope N_l_cell_at ["script", "k"] (defScope s_l_cell_at) := ⟨rfl, rfl, rfl, by decide +kernel, rfl, by decide +kernel, by decide +kernel⟩
theorem bw_l_cell_at : BindsWell "_law_cell_at" s_l_cell_at ["script", "k"] := fun _ _ _ _ _ _ us hl => match us, hl with | [_, _], _ => rfl

def cellAt (ns : List Int) (z : Int) : Int := if z < ns.length then ns.getD z.toNat 0 else 0
def sp_l_cell_at (K : Kf) : Sp := fun vs H Q _ => ∃ (a : Addr) (ns : List Int) (z : Int), vs = [.ref a, .int z] ∧ SqL K H a (ns.map V.int) ∧ 0 ≤ z ∧ RetV (.int (cellAt ns z)) H Q
theorem sv_cell {K : Kf} {σ : L2.St} {H : Hp} {E : XK} {ta : TA} {a : Addr} {ns : List Int} {z : Int} (h : EvA ta σ H [.ref a, .int z]) (hS : SqL K H a (ns.map V.int)) (hz : 0 ≤ z) : Ev (tCall (sp_l_cell_at K) [] E ta) σ H (.int (cellAt ns z)) :=
  ev_callV h fun H1 e Q q E => ⟨a, ns, z, rfl, ex_l e hS, hz, q⟩
local macro_rules | `(tactic| walk_at "call") => `(tactic| ((with_reducible refine' Wm.sv_cell ?ha ?hb ?hc); (case ha => walk_at "ea"); (case hb => walk_at "sq"); (case hc => omega)))
theorem ok_l_cell_at (D : Def K mg "_law_cell_at" s_l_cell_at) (T : Txt mg)  : Own P w K mg base CX0 1 "_law_cell_at" ["script", "k"] (sp_l_cell_at K) := by
  refine D.calm sc_l_cell_at bw_l_cell_at (fun vs H Q E h => ?_) (fun f cdv A outer s H vs Q E hr h => ?_)
  · obtain ⟨a, ns, z, rfl, _⟩ := h
    rfl
  · obtain ⟨a, ns, z, rfl, hS, hz, kQ⟩ := h
    refine ⟨_, (pss_cons (ps_if (pt_cmpR op_lt (pv 1) (pe_callB cr_len (by rfl) T.len PySem.boot_len (pa_cons (pv 0) pa_nil)) (nomark _))
        (pss_one (ps_ret (pe_ix ix_list (pv 0) (pv 1) (fun _ _ => rfl))))
        pss_nil)
        (pss_one (ps_ret pe_int))), ?_⟩
    try dsimp only [cxOf]
    refine q_when (by walk_at "et") (fun hb H1 e1 => ?_) (fun hb H1 e1 => ?_)
    · have hz2 := of_decide_eq_true hb
      rw [List.length_map] at hz2
      refine s_ret (by walk_at "ev") fun H2 e2 => ?_
      have hk := kQ H2 (by walk_at "ex")
      unfold cellAt at hk
      rw [if_pos hz2] at hk
      exact hk
    · have hz2 := of_decide_eq_false hb
      rw [List.length_map] at hz2
      refine s_ret (by walk_at "ev") fun H2 e2 => ?_
      have hk := kQ H2 (by walk_at "ex")
      unfold cellAt at hk
      rw [if_neg hz2] at hk
      exact hk

abbrev s_l_quay_by : Stmt := top 11
abbrev N_l_quay_by : List Str := ["script", "long", "boats", "way", "wishes", "k", "cell"]
theorem sc_l_quay_by : FnScope N_l_quay_by ["script"] (defScope s_l_quay_by) := ⟨rfl, rfl, rfl, by decide +kernel, rfl, by decide +kernel, by decide +kernel⟩
theorem bw_l_quay_by : BindsWell "_law_quay_by" s_l_quay_by ["script"] := fun _ _ _ _ _ _ us hl => match us, hl with | [_], _ => rfl

def RowP (x y : V) (H : Hp) : Prop := ∃ (long : Nat) (ws : List Nat) (q : Addr), x = .int (long : Int) ∧ y = .ref q ∧ Row long ws ∧ H q = some (.lst (vn ws))
def sp_l_quay_by (K : Kf) : Sp := fun vs H Q _ => ∃ (a : Addr) (ns : List Int), vs = [.ref a] ∧ SqL K H a (ns.map V.int) ∧ ∀ p x y H2, Ex H H2 → H2 p = some (.tup [x, y]) → RowP x y H2 → Q (.ref p) H2
theorem sv_quay_by {K : Kf} {σ : L2.St} {H : Hp} {E : XK} {ta : TA} {a : Addr} {ns : List Int} (h : EvA ta σ H [.ref a]) (hS : SqL K H a (ns.map V.int)) : EvPair (tCall (sp_l_quay_by K) [] E ta) σ H RowP :=
  ep_call h fun H1 e Q q E => ⟨a, ns, rfl, ex_l e hS, q⟩
theorem ok_l_quay_by (D : Def K mg "_law_quay_by" s_l_quay_by) (T : Txt mg) (O_l_cell_at : Own P w K mg base CX0 1 "_law_cell_at" ["script", "k"] (sp_l_cell_at K)) : Own P w K mg base CX0 2 "_law_quay_by" ["script"] (sp_l_quay_by K) := by
  refine D.calm sc_l_quay_by bw_l_quay_by (fun vs H Q E h => ?_) (fun f cdv A outer s H vs Q E hr h => ?_)
  · obtain ⟨a, ns, rfl, _⟩ := h
    rfl
  · obtain ⟨a, ns, rfl, hS, kQ⟩ := h
    have hr_l_cell_at : Room 1 _ := hr.mono (by decide)
    refine ⟨_, (pss_cons (ps_set (i := 1) sc_l_quay_by.nd rfl (Or.inl rfl) (pe_op op_add pe_int (pe_op op_mod (pe_own O_l_cell_at hr_l_cell_at pass0 (pa_cons (pv 0) (pa_cons pe_int pa_nil))) pe_int)))
        (pss_cons (ps_if (pt_cmpR op_eq (pe_op op_mod (pe_op op_fdiv (pe_own O_l_cell_at hr_l_cell_at pass0 (pa_cons (pv 0) (pa_cons pe_int pa_nil))) pe_int) pe_int) pe_int (nomark _))
        (pss_one (ps_set (i := 1) sc_l_quay_by.nd rfl (Or.inl rfl) (pe_op op_add pe_int (pe_op op_mod (pe_op op_fdiv (pe_own O_l_cell_at hr_l_cell_at pass0 (pa_cons (pv 0) (pa_cons pe_int pa_nil))) pe_int) pe_int))))
        pss_nil)
        (pss_cons (ps_set (i := 2) sc_l_quay_by.nd rfl (Or.inl rfl) (pv 1))
        (pss_cons (ps_if (pt_cmpR op_eq (pe_op op_mod (pe_own O_l_cell_at hr_l_cell_at pass0 (pa_cons (pv 0) (pa_cons pe_int pa_nil))) pe_int) pe_int (nomark _))
        (pss_one (ps_set (i := 2) sc_l_quay_by.nd rfl (Or.inl rfl) (pe_op op_mod (pe_op op_fdiv (pe_own O_l_cell_at hr_l_cell_at pass0 (pa_cons (pv 0) (pa_cons pe_int pa_nil))) pe_int) (pe_op op_add (pv 1) pe_int))))
        pss_nil)
        (pss_cons (ps_set (i := 3) sc_l_quay_by.nd rfl (Or.inl rfl) (pe_op op_mod (pe_own O_l_cell_at hr_l_cell_at pass0 (pa_cons (pv 0) (pa_cons pe_int pa_nil))) pe_int))
        (pss_cons (ps_set (i := 4) sc_l_quay_by.nd rfl (Or.inl rfl) (pe_lst pa_nil))
        (pss_cons (ps_for PassesOwn.never rfl (pi_range1 (by rfl) T.range (pa_cons (pv 2) pa_nil)) (pg_name (i := 5) sc_l_quay_by.nd rfl (Or.inl rfl))
        (pss_cons (ps_set (i := 6) sc_l_quay_by.nd rfl (Or.inl rfl) (pe_own O_l_cell_at hr_l_cell_at pass0 (pa_cons (pv 0) (pa_cons (pe_op op_add pe_int (pe_op op_mod (pv 5) pe_int)) pa_nil))))
          (pss_one (ps_if (pt_cmpR op_eq (pv 3) pe_int (nomark _))
          (pss_one (ps_expr (pe_bm PySem.F.plainAttrs_list PySem.F.slot_list_append PySem.F.type_list_append mt_append (pv 4) (pa_cons (pe_op op_mod (pv 6) (pe_op op_add pe_int (pe_op op_fdiv (pv 1) pe_int))) pa_nil))))
          (pss_one (ps_if (pt_cmpR op_eq (pv 3) pe_int (nomark _))
            (pss_one (ps_expr (pe_bm PySem.F.plainAttrs_list PySem.F.slot_list_append PySem.F.type_list_append mt_append (pv 4) (pa_cons (pe_op op_sub (pe_op op_sub (pv 1) pe_int) (pe_op op_mod (pv 6) (pe_op op_add pe_int (pe_op op_fdiv (pv 1) pe_int)))) pa_nil))))
            (pss_one (ps_if (pt_cmpR op_eq (pv 3) pe_int (nomark _))
              (pss_one (ps_expr (pe_bm PySem.F.plainAttrs_list PySem.F.slot_list_append PySem.F.type_list_append mt_append (pv 4) (pa_cons (pe_op op_mod (pv 6) (pe_op op_add pe_int (pv 5))) pa_nil))))
              (pss_one (ps_expr (pe_bm PySem.F.plainAttrs_list PySem.F.slot_list_append PySem.F.type_list_append mt_append (pv 4) (pa_cons (pe_op op_mod (pv 6) (pv 1)) pa_nil))))))))))))
        (pss_one (ps_ret (pe_tup (pa_cons (pv 1) (pa_cons (pv 4) pa_nil)))))))))))), ?_⟩
    try dsimp only [cxOf]
    refine q_asg (by walk_at "ev") fun H1 e1 => ?_
    obtain ⟨n0, en0, h1, h8⟩ : ∃ n : Nat, 1 + cellAt ns 0 % 8 = (n : Int) ∧ 1 ≤ n ∧ n ≤ 40 := ⟨(1 + cellAt ns 0 % 8).toNat, by omega, by omega, by omega⟩
    rw [en0]
    refine q_ifP (fun v => ∃ n : Nat, v = .int (n : Int) ∧ 1 ≤ n ∧ n ≤ 40) (by walk_at "et") (fun _ => ⟨_, by walk_at "ev", (1 + cellAt ns 0 / 24 % 40).toNat, congrArg V.int (by omega), by omega, by omega⟩) (fun _ => ⟨_, rfl, n0, rfl, h1, h8⟩) ?_
    rintro v H2 ⟨long, rfl, l1, l2⟩ e2
    refine q_asg (by walk_at "ev") fun H3 e3 => ?_
    refine q_ifP (fun v => ∃ n : Nat, v = .int (n : Int) ∧ n ≤ long) (by walk_at "et") (fun _ => ?_) (fun _ => ⟨_, rfl, long, rfl, Nat.le_refl _⟩) ?_
    · obtain ⟨w, hw, hl⟩ := mod_nat (cellAt ns 1 / 3) (m := (long : Int) + 1) (n := long + 1) (by omega) (by omega)
      exact ⟨_, by walk_at "ev", w, congrArg V.int hw, by omega⟩
    rintro v H4 ⟨boats, rfl, b1⟩ e4
    refine q_asg (by walk_at "ev") fun H5 e5 => ?_
    refine q_asgL (by walk_at "el") fun wp H6 nwp e6 hwp => ?_
    have eH6 : Ex H H6 := by walk_at "ex"
    have nwp0 : H wp = none := fresh_back (((((e1.trans e2).trans e3).trans e4)).trans e5) nwp
    generalize cellAt ns 2 % 4 = way
    refine q_forR1 (n := (boats : Int)) (by walk_at "ea") (by omega) (fun i σ' H' => ∃ o5 o6 acc, σ' = [some (.ref a), some (.int (long : Int)), some (.int (boats : Int)), some (.int way), some (.ref wp), o5, o6] ∧ Ex H H' ∧ H' wp = some (.lst (vn acc)) ∧ acc.length = i ∧ ∀ w ∈ acc, w < long)
      (fun H7 e7 => ⟨none, none, [], rfl, eH6.trans e7, e7 _ _ hwp, rfl, fun w h => by cases h⟩) ?_ ?_
    · rintro i σ' H' hi ⟨o5, o6, acc, rfl, eH, hw, hl, hlt⟩
      refine q_asg (by walk_at "ev") fun H7 e7 => ?_
      generalize cellAt ns (3 + (i : Int) % 50) = cell
      have fin : ∀ (D : Ends) (_ : D.nx = fun σ' H' => ∃ o5 o6 acc, σ' = [some (.ref a), some (.int (long : Int)), some (.int (boats : Int)), some (.int way), some (.ref wp), o5, o6] ∧ Ex H H' ∧ H' wp = some (.lst (vn acc)) ∧ acc.length = i + 1 ∧ ∀ w ∈ acc, w < long) (te : TE) (z : Int) (H8 : Hp), Ex H7 H8 → Ev te ([some (.ref a), some (.int (long : Int)), some (.int (boats : Int)), some (.int way), some (.ref wp), some (.int (i : Int)), some (.int cell)] : L2.St) H8 (.int z) → (∃ w : Nat, z = (w : Int) ∧ w < long) →
          tDrop (tBM K "list" rAppend (tVar 4) (tCons te tNil)) D ([some (.ref a), some (.int (long : Int)), some (.int (boats : Int)), some (.int way), some (.ref wp), some (.int (i : Int)), some (.int cell)] : L2.St) H8 := by
        rintro D hD te z H8 e8 hv ⟨w, rfl, hwl⟩
        refine s_app (xs := vn acc) (e8 _ _ (e7 _ _ hw)) (ev_var rfl) hv (by rw [vn_len]; omega) fun H9 e9 => ?_
        rw [hD]
        refine ⟨_, _, acc ++ [w], rfl, ((eH.trans e7).trans (e8.trans e9)).mut nwp0, ?_, ?_, fun x hx => ?_⟩
        · rw [upd_same, vn_snoc]
        · rw [List.length_append, hl]
          rfl
        · rcases List.mem_append.mp hx with hx | hx
          · exact hlt x hx
          · rw [List.mem_singleton.mp hx]
            exact hwl
      refine s_if (by walk_at "et") (fun _ H8 e8 => ?_) (fun _ H8 e8 => ?_)
      · obtain ⟨w, hw2, hl2⟩ := mod_nat cell (m := 1 + (long : Int) / 3) (n := long) (by omega) (by omega)
        exact fin _ rfl _ _ H8 e8 (by walk_at "ev") ⟨w, hw2, hl2⟩
      refine s_if (by walk_at "et") (fun _ H9 e9 => ?_) (fun _ H9 e9 => ?_)
      · obtain ⟨w, hw2, hl2⟩ := mod_nat cell (m := 1 + (long : Int) / 3) (n := long) (by omega) (by omega)
        exact fin _ rfl _ _ H9 (e8.trans e9) (by walk_at "ev") ⟨long - 1 - w, by omega, by omega⟩
      refine s_if (by walk_at "et") (fun _ H10 e10 => ?_) (fun _ H10 e10 => ?_)
      · obtain ⟨w, hw2, hl2⟩ := mod_nat cell (m := 1 + (i : Int)) (n := long) (by omega) (by omega)
        exact fin _ rfl _ _ H10 ((e8.trans e9).trans e10) (by walk_at "ev") ⟨w, hw2, hl2⟩
      · obtain ⟨w, hw2, hl2⟩ := mod_nat cell (m := (long : Int)) (n := long) (by omega) (by omega)
        exact fin _ rfl _ _ H10 ((e8.trans e9).trans e10) (by walk_at "ev") ⟨w, hw2, hl2⟩
    · rintro σ' H' ⟨o5, o6, acc, rfl, eH, hw, hl, hlt⟩
      refine s_retU (by walk_at "eu") fun p H7 np e7 hp => ?_
      exact kQ p _ _ H7 (eH.trans e7) hp ⟨long, acc, wp, rfl, rfl, ⟨l1, l2, by omega, hlt⟩, e7 _ _ hw⟩

abbrev s_l_shuffled : Stmt := top 12
abbrev N_l_shuffled : List Str := ["script", "first", "size", "order", "k", "number"]
theorem sc_l_shuffled : FnScope N_l_shuffled ["script", "first", "size"] (defScope s_l_shuffled) := ⟨rfl, rfl, rfl, by decide +kernel, rfl, by decide +kernel, by decide +kernel⟩
theorem bw_l_shuffled : BindsWell "_law_shuffled" s_l_shuffled ["script", "first", "size"] := fun _ _ _ _ _ _ us hl => match us, hl with | [_, _, _], _ => rfl

def sp_l_shuffled (K : Kf) : Sp := fun vs H Q _ => ∃ (a : Addr) (ns : List Int) (z : Int) (n : Nat), vs = [.ref a, .int z, .int (n : Int)] ∧ SqL K H a (ns.map V.int) ∧ 0 ≤ z ∧ n ≤ 1000 ∧ ∀ l : List Nat, l.Perm (List.range n) → RetL (vn l) H Q
theorem sv_shuffled {K : Kf} {σ : L2.St} {H : Hp} {E : XK} {ta : TA} {a : Addr} {ns : List Int} {z : Int} {n : Nat} (h : EvA ta σ H [.ref a, .int z, .int (n : Int)]) (hS : SqL K H a (ns.map V.int)) (hz : 0 ≤ z) (hn : n ≤ 1000) : EvLP (tCall (sp_l_shuffled K) [] E ta) σ H (fun xs => ∃ l : List Nat, xs = vn l ∧ l.Perm (List.range n)) :=
  lp_call h fun H1 e Q q E => ⟨a, ns, z, n, rfl, ex_l e hS, hz, hn, fun l hl => q _ ⟨l, rfl, hl⟩⟩
theorem ok_l_shuffled (D : Def K mg "_law_shuffled" s_l_shuffled) (T : Txt mg) (O_l_cell_at : Own P w K mg base CX0 1 "_law_cell_at" ["script", "k"] (sp_l_cell_at K)) : Own P w K mg base CX0 2 "_law_shuffled" ["script", "first", "size"] (sp_l_shuffled K) := by
  refine D.calm sc_l_shuffled bw_l_shuffled (fun vs H Q E h => ?_) (fun f cdv A outer s H vs Q E hr h => ?_)
  · obtain ⟨a, ns, z, n, rfl, _⟩ := h
    rfl
  · obtain ⟨a, ns, z, n, rfl, hS, hz, hn, kQ⟩ := h
    have hr_l_cell_at : Room 1 _ := hr.mono (by decide)
    refine ⟨_, (pss_cons (ps_set (i := 3) sc_l_shuffled.nd rfl (Or.inl rfl) (pe_callB cr_sortedPO (by rfl) T.sorted (by decide +kernel) (pa_cons (pe_lc (own := [("k", 4)]) (g := gName 4) rfl sc_l_shuffled.nd (pi_range1 (by rfl) T.range (pa_cons (pv 2) pa_nil)) (blkOk_by (N := N_l_shuffled) (sc := defScope s_l_shuffled) (by decide +kernel)) (fun _ _ _ _ _ => pg_name (i := 4) sc_l_shuffled.nd rfl (.inl rfl)) (fun _ _ _ _ _ => pts_nil) (fun _ _ _ _ _ => (pe_tup (pa_cons (pe_op op_mod (pe_op op_mul (pe_own O_l_cell_at hr_l_cell_at pass0 (pa_cons (pv 0) (pa_cons (pe_op op_add (pv 1) (pe_op op_mod (pv 4) pe_int)) pa_nil))) (pe_op op_add (pv 4) pe_int)) pe_int) (pa_cons (pv 4) pa_nil))))) pa_nil)))
        (pss_one (ps_ret (pe_lc (own := [("number", 5), ("k", 4)]) (g := gTup K 2 (gCons (gName 5) (gCons (gName 4) gNil))) rfl sc_l_shuffled.nd (pi_list (pv 3)) (blkOk_by (N := N_l_shuffled) (sc := defScope s_l_shuffled) (by decide +kernel)) (fun _ _ _ _ _ => (pg_tupK rfl rfl (pgs_cons (pg_name (i := 5) sc_l_shuffled.nd rfl (.inl rfl)) (pgs_cons (pg_name (i := 4) sc_l_shuffled.nd rfl (.inl rfl)) pgs_nil)))) (fun _ _ _ _ _ => pts_nil) (fun _ _ _ _ _ => (pv 4)))))), ?_⟩
    try dsimp only [cxOf]
    refine q_sorted_pairs (n := n) (f := fun i => cellAt ns (z + (i : Int) % 45) * ((i : Int) + 1) % 101) (er_lcR1 (mk := HO.tup) (n := (n : Int)) (fun i => [V.int (cellAt ns (z + (i : Int) % 45) * ((i : Int) + 1) % 101), V.int (i : Int)]) (by walk_at "ea") (by omega) (fun _ => rfl) fun i H1 e1 hi => ?_) fun p zs H2 np e2 hp hm hperm => ?_
    · have hS1 := ex_l e1 hS
      exact eu_tup (ea_cons (ev_op (ev_op (sv_cell (by walk_at "ea") hS1 (by omega)) (by walk_at "ev") (rv_I (by exact Or.inr ⟨by omega, by omega⟩))) ev_c (rv_I (by walk_at "side"))) (by walk_at "ea")) (Nat.le_of_ble_eq_true rfl)
    have hzl : zs.length = n := by
      have := hperm.length_eq
      rw [List.length_map, List.length_range] at this
      exact this
    refine s_retL (el_lcPairs (K := K) (zs := zs) (fun x => V.int (pairAt H2 x).2) (by walk_at "ev") (sq_of hp) (by omega) (fun x hx => ?_) (fun _ _ => rfl) fun x H3 e3 hx => by walk_at "ev") fun l H3 nl e3 hl => ?_
    · obtain ⟨q, i, h1, h2, h3⟩ := hm x hx
      exact ⟨q, _, _, h1, h3⟩
    have e4 : zs.map (fun x => V.int (pairAt H2 x).2) = vn (zs.map fun x => (pairAt H2 x).2.toNat) := by
      unfold vn
      rw [List.map_map]
      refine List.map_congr_left fun x hx => ?_
      obtain ⟨q, i, rfl, h2, h3⟩ := hm x hx
      show V.int (pairAt H2 (.ref q)).2 = V.int ((pairAt H2 (.ref q)).2.toNat : Int)
      rw [pairAt_is h3, Int.toNat_natCast]
    rw [e4] at hl
    exact kQ _ hperm l H3 (fresh_back e2 nl) (e2.trans e3) hl

abbrev s_l_whole : Stmt := top 10
abbrev N_l_whole : List Str := ["found"]
theorem sc_l_whole : FnScope N_l_whole ["found"] (defScope s_l_whole) := ⟨rfl, rfl, rfl, by decide +kernel, rfl, by decide +kernel, by decide +kernel⟩
theorem bw_l_whole : BindsWell "_law_whole" s_l_whole ["found"] := fun _ _ _ _ _ _ us hl => match us, hl with | [_], _ => rfl

/-- asked of an int alone -/
def sp_l_whole : Sp := fun vs H Q _ => ∃ i : Int, vs = [.int i] ∧ RetV (.bl true) H Q
theorem sv_whole {σ : L2.St} {H : Hp} {E : XK} {ta : TA} {i : Int} (h : EvA ta σ H [.int i]) : Ev (tCall sp_l_whole [] E ta) σ H (.bl true) := ev_callV h fun H1 e Q q E => ⟨i, rfl, q⟩
local macro_rules | `(tactic| walk_at "call") => `(tactic| ((with_reducible refine' Wm.sv_whole ?ha); (case ha => walk_at "ea")))
theorem ok_l_whole (D : Def K mg "_law_whole" s_l_whole) (T : Txt mg)  : Own P w K mg base CX0 1 "_law_whole" ["found"] sp_l_whole := by
  refine D.calm sc_l_whole bw_l_whole (fun vs H Q E h => ?_) (fun f cdv A outer s H vs Q E hr h => ?_)
  · obtain ⟨i, rfl, _⟩ := h
    rfl
  · obtain ⟨i, rfl, kQ⟩ := h
    refine ⟨_, (pss_one (ps_ret (pe_and (pe_callB call_isi (by rfl) T.isinstance (by decide +kernel) (pa_cons (pv 0) (pa_cons (pe_bltn (v := .ty "int") (by rfl) T.int (by decide +kernel) rfl) pa_nil))) (pe_one (pe_not (pe_callB call_isi (by rfl) T.isinstance (by decide +kernel) (pa_cons (pv 0) (pa_cons (pe_bltn (v := .ty "bool") (by rfl) T.bool (by decide +kernel) rfl) pa_nil)))))))), ?_⟩
    try dsimp only [cxOf]
    refine s_ret (ev_andV (ev_isi (r := true) (ev_var rfl) (fun _ _ => .base (.int i)) (by decide +kernel)) fun _ => ev_notV (ev_isi (r := false) (ev_var rfl) (fun _ _ => .base (.int i)) (by decide +kernel))) fun H2 e2 => ?_
    exact kQ H2 (by walk_at "ex")

abbrev s_l_taken : Stmt := top 13
abbrev N_l_taken : List Str := ["found", "count", "places", "place"]
theorem sc_l_taken : FnScope N_l_taken ["found", "count"] (defScope s_l_taken) := ⟨rfl, rfl, rfl, by decide +kernel, rfl, by decide +kernel, by decide +kernel⟩
theorem bw_l_taken : BindsWell "_law_taken" s_l_taken ["found", "count"] := fun _ _ _ _ _ _ us hl => match us, hl with | [_, _], _ => rfl

/-- asked of a list of places or None, as many as are told -/
def sp_l_taken (K : Kf) : Sp := fun vs H Q _ => ∃ (a : Addr) (l : List (Option Nat)), vs = [.ref a, .int (l.length : Int)] ∧ H a = some (.lst (vos l)) ∧ l.length ≤ 1000 ∧ ∀ s : List Int, s.Perm ((placesOf l).map Int.ofNat) → s.Pairwise (· ≤ ·) → RetL (s.map V.int) H Q
theorem filter_vos (l : List (Option Nat)) : ((vos l).filter fun x => !decide (x = V.non)) = vn (placesOf l) := by
  unfold vos placesOf
  induction l with
  | nil => rfl
  | cons o l ih =>
    rw [List.map_cons, List.filter_cons, List.filterMap_cons]
    cases o with
    | none => exact ih
    | some p =>
      have e : (!decide (vo (some p) = V.non)) = true := by
        rw [decide_eq_false (fun z => by cases z)]
        rfl
      rw [if_pos e, ih]
      rfl
theorem ok_l_taken (D : Def K mg "_law_taken" s_l_taken) (T : Txt mg) (O_l_whole : Own P w K mg base CX0 1 "_law_whole" ["found"] sp_l_whole) : Own P w K mg base CX0 2 "_law_taken" ["found", "count"] (sp_l_taken K) := by
  refine D.calm sc_l_taken bw_l_taken (fun vs H Q E h => ?_) (fun f cdv A outer s H vs Q E hr h => ?_)
  · obtain ⟨a, l, rfl, _⟩ := h
    rfl
  · obtain ⟨a, l, rfl, hA, hl, kQ⟩ := h
    have hr_l_whole : Room 1 _ := hr.mono (by decide)
    refine ⟨_, (pss_cons (ps_if (PW.pt (pw_or (pt_not (pt_val (pe_callB call_isi (by rfl) T.isinstance (by decide +kernel) (pa_cons (pv 0) (pa_cons (pe_bltn (v := .ty "list") (by rfl) T.list (by decide +kernel) rfl) pa_nil))))) (pw_or1 (pt_cmpR op_ne (pe_callB cr_len (by rfl) T.len PySem.boot_len (pa_cons (pv 0) pa_nil)) (pv 1) (nomark _)))))
        (pss_one (ps_ret pe_non))
        pss_nil)
        (pss_cons (ps_setLc (i := 2) (own := [("place", 3)]) (g := gName 3) rfl sc_l_taken.nd rfl rfl (sw_true rfl rfl rfl (by decide +kernel)) (pi_list (pv 0)) (blkOk_by (N := N_l_taken) (sc := defScope s_l_taken) (by decide +kernel)) (fun _ _ _ _ _ => pg_name (i := 3) sc_l_taken.nd rfl (.inl rfl)) (fun _ _ _ _ _ => (pts_one (pt_cmpR op_notN (pv 3) pe_non (nomark _)))) (fun _ _ _ _ _ => (pv 3)))
        (pss_cons (ps_for PassesOwn.never rfl (pi_list (pv 2)) (pg_name (i := 3) sc_l_taken.nd rfl (Or.inl rfl))
        (pss_one (ps_if (pt_not (pt_val (pe_own O_l_whole hr_l_whole pass0 (pa_cons (pv 3) pa_nil))))
          (pss_one (ps_ret pe_non))
          pss_nil)))
        (pss_one (ps_ret (pe_callB cr_sortedI (by rfl) T.sorted (by decide +kernel) (pa_cons (pv 2) pa_nil))))))), ?_⟩
    try dsimp only [cxOf]
    refine q_when (b := false) (et_is (et_or (et_not (et_B (ev_isi (r := true) (a := "list") (ev_var rfl) (fun H1 e => .base (.lst (e _ _ hA))) (by decide +kernel)))) fun _ => et_test (ev_op (ev_len (K := K) (xs := vos l) (ev_var rfl) (sq_of hA)) (ev_var rfl) (rv_ne rfl))) (by rw [vos_len, decide_eq_true rfl]; rfl)) (fun h => by cases h) fun _ H1 e1 => ?_
    refine q_asgL (xs := vn (placesOf l)) (el_is (el_lcX (K := K) (xs := vos l) (fun x => !decide (x = V.non)) id (ev_var rfl) (sq_of (e1 _ _ hA)) (by rw [vos_len]; omega) (fun _ => rfl) (fun x H2 e2 _ => et_test (ev_op (ev_var rfl) ev_c rv_notN)) (fun x H2 e2 _ _ => ev_var rfl)) (by rw [List.map_id, filter_vos])) fun pl H2 npl e2 hpl => ?_
    refine q_forLn (K := K) (a := pl) (xs := vn (placesOf l)) (by walk_at "ev") (sq_of hpl) (fun i σ' H' => ∃ o3, σ' = [some (.ref a), some (.int (l.length : Int)), some (.ref pl), o3] ∧ Ex H2 H') (fun H3 e3 => ⟨none, rfl, e3⟩) (fun i σ' H' _ p => ?_) ?_ ?_
    · obtain ⟨_, _, eH⟩ := p
      exact sq_of (eH _ _ hpl)
    · rintro i x σ' H' hx ⟨o3, rfl, eH⟩
      obtain ⟨w, rfl, hw, hi, hm⟩ := vn_at hx
      refine s_when (b := false) (et_is (et_not (et_B (sv_whole (by walk_at "ea")))) rfl) (fun h => by cases h) fun _ H3 e3 => ?_
      exact ⟨_, rfl, eH.trans e3⟩
    · rintro σ' H' ⟨o3, rfl, eH⟩
      refine s_retLP (P := fun xs => ∃ s : List Int, xs = s.map V.int ∧ s.Perm ((placesOf l).map Int.ofNat) ∧ s.Pairwise (· ≤ ·)) (fun H3 e3 Q2 q2 => ?_) fun p xs H3 np e3 hp hP => ?_
      · refine ev_var rfl H3 e3 _ fun H4 e4 => ⟨pl, (placesOf l).map Int.ofNat, rfl, ?_, fun s p hs1 hs2 np => ?_⟩
        · rw [← vn_ints]
          exact sq_of ((eH.trans (e3.trans e4)) _ _ hpl)
        · exact q2 p _ _ (fresh_back e4 np) (e4.trans (Ex.new np)) upd_same ⟨s, rfl, hs1, hs2⟩
      · obtain ⟨s, rfl, h1, h2⟩ := hP
        exact kQ s h1 h2 p H3 (fresh_back (e1.trans (e2.trans eH)) np) ((e1.trans (e2.trans eH)).trans e3) hp

abbrev s_asked : Stmt := top 6
abbrev N_asked : List Str := ["long", "wishes", "wish"]
theorem sc_asked : FnScope N_asked ["long", "wishes"] (defScope s_asked) := ⟨rfl, rfl, rfl, by decide +kernel, rfl, by decide +kernel, by decide +kernel⟩
theorem bw_asked : BindsWell "asked" s_asked ["long", "wishes"] := fun _ _ _ _ _ _ us hl => match us, hl with | [_, _], _ => rfl

/-- asked of a good row -/
def sp_asked (K : Kf) : Sp := fun vs H Q _ => ∃ (a : Addr) (long : Nat) (ws : List Nat), vs = [.int (long : Int), .ref a] ∧ SqL K H a (vn ws) ∧ Row long ws ∧ RetV .non H Q
theorem sv_asked {K : Kf} {σ : L2.St} {H : Hp} {E : XK} {ta : TA} {a : Addr} {long : Nat} {ws : List Nat} (h : EvA ta σ H [.int (long : Int), .ref a]) (hS : SqL K H a (vn ws)) (hR : Row long ws) : Ev (tCall (sp_asked K) [] E ta) σ H .non :=
  ev_callV h fun H1 e Q q E => ⟨a, long, ws, rfl, ex_l e hS, hR, q⟩
theorem ok_asked (D : Def K mg "asked" s_asked) (T : Txt mg) {tLONGEST : Tok} (cLONGEST : mg "LONGEST" = some (.int 40 tLONGEST)) : Own P w K mg base CX0 1 "asked" ["long", "wishes"] (sp_asked K) := by
  refine D.calm sc_asked bw_asked (fun vs H Q E h => ?_) (fun f cdv A outer s H vs Q E hr h => ?_)
  · obtain ⟨a, long, ws, rfl, _⟩ := h
    rfl
  · obtain ⟨a, long, ws, rfl, hS, hR, kQ⟩ := h
    refine ⟨_, (pss_cons (ps_if (PW.pt (pw_or (pt_cmpR op_lt (pv 0) pe_int (nomark _)) (pw_or1 (pt_cmpR op_gt (pv 0) (pe_glob (v := .int 40) rfl cLONGEST ⟨_, rfl⟩) (nomark _)))))
        (pss_one ps_never)
        pss_nil)
        (pss_cons (ps_if (pt_cmpR op_gt (pe_callB cr_len (by rfl) T.len PySem.boot_len (pa_cons (pv 1) pa_nil)) (pv 0) (nomark _))
        (pss_one ps_never)
        pss_nil)
        (pss_one (ps_for PassesOwn.never rfl (pi_list (pv 1)) (pg_name (i := 2) sc_asked.nd rfl (Or.inl rfl))
        (pss_one (ps_if (PW.pt (pw_or (pt_cmpR op_lt (pv 2) pe_int (nomark _)) (pw_or1 (pt_cmpR op_ge (pv 2) (pv 0) (nomark _)))))
          (pss_one ps_never)
          pss_nil)))))), ?_⟩
    try dsimp only [cxOf]
    obtain ⟨r1, r2, r3, r4⟩ := hR
    refine q_when (b := false) (et_is (by walk_at "et") ?_) (fun h => by cases h) fun _ H1 e1 => ?_
    · rw [Bool.or_eq_false_iff, decide_eq_false_iff_not, decide_eq_false_iff_not]
      omega
    refine q_when (b := false) (et_is (by walk_at "et") ?_) (fun h => by cases h) fun _ H2 e2 => ?_
    · rw [vn_len, decide_eq_false_iff_not]
      omega
    refine s_forLn (K := K) (a := a) (xs := vn ws) (by walk_at "ev") (by walk_at "sq") (fun i σ' H' => ∃ o, σ' = [some (.int (long : Int)), some (.ref a), o] ∧ Ex H H') (fun H3 e3 => ⟨none, rfl, by walk_at "ex"⟩) (fun i σ' H' _ p => ?_) ?_ ?_
    · obtain ⟨_, _, eH⟩ := p
      exact ex_l eH hS
    · rintro i x σ' H' hx ⟨o, rfl, eH⟩
      obtain ⟨w, rfl, hw, hi, hm⟩ := vn_at hx
      have := r4 w hm
      refine s_when (b := false) (et_is (by walk_at "et") ?_) (fun h => by cases h) fun _ H3 e3 => ?_
      · rw [Bool.or_eq_false_iff, decide_eq_false_iff_not, decide_eq_false_iff_not]
        omega
      · exact ⟨_, rfl, by walk_at "ex"⟩
    · rintro σ' H' ⟨o, rfl, eH⟩
      exact kQ H' eH

abbrev s_moored : Stmt := top 7
abbrev N_moored : List Str := ["long", "wishes", "taken", "found", "wish", "place"]
theorem sc_moored : FnScope N_moored ["long", "wishes"] (defScope s_moored) := ⟨rfl, rfl, rfl, by decide +kernel, rfl, by decide +kernel, by decide +kernel⟩
theorem bw_moored : BindsWell "moored" s_moored ["long", "wishes"] := fun _ _ _ _ _ _ us hl => match us, hl with | [_, _], _ => rfl

def takenL (long : Nat) (acc : List (Option Nat)) : List V := (List.range long).map fun p => V.bl (decide (some p ∈ acc))
theorem takenL_len (long : Nat) (acc : List (Option Nat)) : (takenL long acc).length = long := by
  unfold takenL
  rw [List.length_map, List.length_range]
theorem takenL_at {long : Nat} {acc : List (Option Nat)} {p : Nat} (h : p < long) : (takenL long acc)[p]? = some (.bl (decide (some p ∈ acc))) := by
  unfold takenL
  rw [List.getElem?_map, List.getElem?_range h]
  rfl
theorem takenL_set {long : Nat} {acc : List (Option Nat)} {p : Nat} : (takenL long acc).set p (.bl true) = takenL long (acc ++ [some p]) := by
  refine List.ext_getElem? fun q => ?_
  rw [List.getElem?_set]
  by_cases hq : q < long
  · rw [takenL_at hq, takenL_len]
    by_cases e : p = q
    · rw [if_pos e, if_pos (by omega)]
      rw [takenL_at hq, e, decide_eq_true (List.mem_append_right acc (List.mem_singleton.mpr rfl))]
    · rw [if_neg e, takenL_at hq]
      refine congrArg (fun b => some (V.bl b)) (decide_eq_decide.mpr ?_)
      rw [List.mem_append, List.mem_singleton]
      have e2 : ¬ (some q = some p) := fun z => e (Option.some.inj z).symm
      simp only [e2, or_false]
  · have h1 : (takenL long (acc ++ [some p]))[q]? = none := List.getElem?_eq_none (by rw [takenL_len]; omega)
    have h2 : (takenL long acc)[q]? = none := List.getElem?_eq_none (by rw [takenL_len]; omega)
    rw [h1, h2, takenL_len]
    by_cases e : p = q
    · rw [if_pos e, if_neg (by omega)]
    · rw [if_neg e]
theorem takenL_none {long : Nat} {acc : List (Option Nat)} : takenL long (acc ++ [none]) = takenL long acc := by
  unfold takenL
  refine List.map_congr_left fun p _ => ?_
  refine congrArg V.bl (decide_eq_decide.mpr ?_)
  rw [List.mem_append, List.mem_singleton]
  have e2 : ¬ (some p = none) := fun z => by cases z
  simp only [e2, or_false]
def sp_moored (K : Kf) : Sp := fun vs H Q _ => ∃ (a : Addr) (long : Nat) (ws : List Nat), vs = [.int (long : Int), .ref a] ∧ SqL K H a (vn ws) ∧ Row long ws ∧ RetL (vos (mooredL long ws)) H Q
theorem sv_lmoored {K : Kf} {σ : L2.St} {H : Hp} {E : XK} {ta : TA} {a : Addr} {long : Nat} {ws : List Nat} (h : EvA ta σ H [.int (long : Int), .ref a]) (hS : SqL K H a (vn ws)) (hR : Row long ws) : EvL (tCall (sp_moored K) [] E ta) σ H (vos (mooredL long ws)) :=
  el_callL h fun H1 e Q q E => ⟨a, long, ws, rfl, ex_l e hS, hR, q⟩
theorem ok_moored (D : Def K mg "moored" s_moored) (T : Txt mg) (O_asked : Own P w K mg base CX0 1 "asked" ["long", "wishes"] (sp_asked K)) : Own P w K mg base CX0 2 "moored" ["long", "wishes"] (sp_moored K) := by
  refine D.calm sc_moored bw_moored (fun vs H Q E h => ?_) (fun f cdv A outer s H vs Q E hr h => ?_)
  · obtain ⟨a, long, ws, rfl, _⟩ := h
    rfl
  · obtain ⟨a, long, ws, rfl, hS, hR, kQ⟩ := h
    have hr_asked : Room 1 _ := hr.mono (by decide)
    refine ⟨_, (pss_cons (ps_expr (pe_own O_asked hr_asked pass0 (pa_cons (pv 0) (pa_cons (pv 1) pa_nil))))
        (pss_cons (ps_setLc (i := 2) (own := [("place", 5)]) (g := gName 5) rfl sc_moored.nd rfl rfl (sw_true rfl rfl rfl (by decide +kernel)) (pi_range1 (by rfl) T.range (pa_cons (pv 0) pa_nil)) (blkOk_by (N := N_moored) (sc := defScope s_moored) (by decide +kernel)) (fun _ _ _ _ _ => pg_name (i := 5) sc_moored.nd rfl (.inl rfl)) (fun _ _ _ _ _ => pts_nil) (fun _ _ _ _ _ => pe_bl))
        (pss_cons (ps_set (i := 3) sc_moored.nd rfl (Or.inl rfl) (pe_lst pa_nil))
        (pss_cons (ps_for PassesOwn.never rfl (pi_list (pv 1)) (pg_name (i := 4) sc_moored.nd rfl (Or.inl rfl))
        (pss_cons (ps_set (i := 5) sc_moored.nd rfl (Or.inl rfl) (pv 4))
          (pss_cons (ps_while PassesOwn.never (PW.pt (pw_and (pt_cmpR op_lt (pv 5) (pv 0) (nomark _)) (pw_and1 (pt_val (pe_ix ix_list (pv 2) (pv 5) (fun _ _ => rfl))))))
          (pss_one (ps_set (i := 5) sc_moored.nd rfl (Or.inl rfl) (pe_op op_add (pv 5) pe_int))))
          (pss_one (ps_if (pt_cmpR op_lt (pv 5) (pv 0) (nomark _))
          (pss_cons (ps_asg pe_bl (pg_sub (pv 2) (pv 5) set_list))
            (pss_one (ps_expr (pe_bm PySem.F.plainAttrs_list PySem.F.slot_list_append PySem.F.type_list_append mt_append (pv 3) (pa_cons (pv 5) pa_nil)))))
          (pss_one (ps_expr (pe_bm PySem.F.plainAttrs_list PySem.F.slot_list_append PySem.F.type_list_append mt_append (pv 3) (pa_cons pe_non pa_nil)))))))))
        (pss_one (ps_ret (pv 3))))))), ?_⟩
    try dsimp only [cxOf]
    obtain ⟨r1, r2, r3, r4⟩ := id hR
    refine q_drop (sv_asked (by walk_at "ea") hS hR) fun H1 e1 => ?_
    refine q_asgL (xs := takenL long []) (el_is (el_lcR1 (n := (long : Int)) (fun _ => true) (fun _ => .bl false) (by walk_at "ea") (by omega) (fun _ => rfl) (fun _ _ _ _ => et_yes) (fun _ _ _ _ _ => ev_c)) ?_) fun tk H2 ntk e2 htk => ?_
    · rw [given_all (fun _ => rfl), Int.toNat_natCast]
      unfold takenL
      refine List.map_congr_left fun p _ => ?_
      rw [decide_eq_false List.not_mem_nil]
    refine q_asgL (by walk_at "el") fun fo H3 nfo e3 hfo => ?_
    have eH3 : Ex H H3 := by walk_at "ex"
    have ntk0 : H tk = none := fresh_back e1 ntk
    have nfo0 : H fo = none := fresh_back (e1.trans e2) nfo
    refine q_forLn (K := K) (a := a) (xs := vn ws) (by walk_at "ev") (ex_l eH3 hS) (fun i σ' H' => ∃ o4 o5, σ' = [some (.int (long : Int)), some (.ref a), some (.ref tk), some (.ref fo), o4, o5] ∧ Ex H H' ∧ H' tk = some (.lst (takenL long (mooredL long (ws.take i)))) ∧ H' fo = some (.lst (vos (mooredL long (ws.take i)))))
      (fun H4 e4 => ⟨none, none, rfl, eH3.trans e4, e4 tk _ (e3 tk _ htk), e4 fo _ hfo⟩) (fun i σ' H' _ p => ?_) ?_ ?_
    · obtain ⟨_, _, _, eH, _⟩ := p
      exact ex_l eH hS
    · rintro i x σ' H' hx ⟨o4, o5, rfl, eH, ht, hf⟩
      obtain ⟨w, rfl, hw, hi, hm⟩ := vn_at hx
      have hwl := r4 w hm
      have step := mooredL_take (long := long) hw
      generalize hacc : mooredL long (ws.take i) = acc at step ht hf
      have hlen : acc.length ≤ 1000 := by
        rw [← hacc, mooredL_len, List.length_take]
        omega
      have htf : fo ≠ tk := fun z => by
        rw [z] at nfo
        rw [nfo] at htk
        cases htk
      refine q_asg (by walk_at "ev") fun H4 e4 => ?_
      -- the while: from w on all places are taken
      refine q_while (fun m σ' H' => ∃ p : Nat, m = long - p ∧ w ≤ p ∧ p ≤ long ∧ (∀ q, w ≤ q → q < p → some q ∈ acc) ∧ σ' = [some (.int (long : Int)), some (.ref a), some (.ref tk), some (.ref fo), some (.int (w : Int)), some (.int (p : Int))] ∧ Ex H4 H') (long - w) ⟨w, rfl, Nat.le_refl _, by omega, fun q h1 h2 => by omega, rfl, Ex.refl _⟩ ?_
      rintro m σ' H5 ⟨p, rfl, hp1, hp2, hp3, rfl, e5⟩
      have ht5 : H5 tk = some (.lst (takenL long acc)) := e5 _ _ (e4 _ _ ht)
      have hf5 : H5 fo = some (.lst (vos acc)) := e5 _ _ (e4 _ _ hf)
      by_cases hpl : p < long
      · have hat := takenL_at (acc := acc) hpl
        refine ⟨decide (some p ∈ acc), et_is (et_and (a := true) (b := decide (some p ∈ acc)) (et_is (et_test (by walk_at "ev")) (decide_eq_true (by omega))) fun _ => et_B (ev_ixL (ev_var rfl) (ev_var rfl) (sq_of ht5) (atI_nat hat))) (Bool.true_and _), fun hb H6 e6 => ?_, fun hb H6 e6 => ?_⟩
        · refine ⟨fun σ2 H2 => σ2 = [some (.int (long : Int)), some (.ref a), some (.ref tk), some (.ref fo), some (.int (w : Int)), some (.int ((p : Int) + 1))] ∧ Ex H4 H2, ?_, ?_⟩
          · rintro σ2 H2 ⟨rfl, e2⟩
            refine ⟨long - (p + 1), by omega, p + 1, rfl, by omega, by omega, fun q h1 h2 => ?_, ?_, e2⟩
            · by_cases hqp : q = p
              · rw [hqp]
                exact of_decide_eq_true hb
              · exact hp3 q h1 (by omega)
            · rw [Int.natCast_add]
              rfl
          · refine s_asg (by walk_at "ev") fun H7 e7 => ⟨rfl, by walk_at "ex"⟩
        · -- a free place
          have ff : firstFree long (fun p => decide (some p ∈ acc)) w = some p := firstFree_is hp1 hpl hb fun q h1 h2 => decide_eq_true (hp3 q h1 h2)
          refine s_if (b := true) (et_is (et_test (by walk_at "ev")) (decide_eq_true (by omega))) (fun _ H7 e7 => ?_) (fun h => by cases h)
          refine q_setL (j := p) (e7 _ _ (e6 _ _ ht5)) (by walk_at "ev") (by walk_at "ev") (by walk_at "ev") (by rw [takenL_len]; exact hpl) fun H8 e8 => ?_
          refine s_app (xs := vos acc) (by rw [upd_ne htf]; exact e8 _ _ (e7 _ _ (e6 _ _ hf5))) (by walk_at "ev") (by walk_at "ev") (by rw [vos_len]; omega) fun H9 e9 => ?_
          refine ⟨_, _, rfl, ((((eH.trans e4).trans (e5.trans e6)).trans (e7.trans e8)).mut ntk0).trans e9 |>.mut nfo0, ?_, ?_⟩
          · rw [upd_ne htf.symm, step, ff]
            rw [← takenL_set]
            exact e9 _ _ upd_same
          · rw [upd_same, step, ff, vos_snoc]
            rfl
      · have hpe : p = long := by omega
        have ff : firstFree long (fun p => decide (some p ∈ acc)) w = none := firstFree_isNone fun q h1 h2 => decide_eq_true (hp3 q h1 (by omega))
        refine ⟨false, et_is (et_and (a := false) (b := false) (et_is (et_test (by walk_at "ev")) (decide_eq_false (by omega))) fun h => by cases h) rfl, (fun h => by cases h), fun _ H6 e6 => ?_⟩
        refine s_if (b := false) (et_is (et_test (by walk_at "ev")) (decide_eq_false (by omega))) (fun h => by cases h) (fun _ H7 e7 => ?_)
        refine s_app (xs := vos acc) (e7 _ _ (e6 _ _ hf5)) (by walk_at "ev") (by walk_at "ev") (by rw [vos_len]; omega) fun H8 e8 => ?_
        refine ⟨_, _, rfl, (((eH.trans e4).trans (e5.trans e6)).trans (e7.trans e8)).mut nfo0, ?_, ?_⟩
        · rw [upd_ne htf.symm, step, ff, takenL_none]
          exact e8 _ _ (e7 _ _ (e6 _ _ ht5))
        · rw [upd_same, step, ff, vos_snoc]
          rfl
    · rintro σ' H' ⟨o4, o5, rfl, eH, ht, hf⟩
      refine s_ret (by walk_at "ev") fun H4 e4 => ?_
      rw [vn_len, List.take_length] at hf
      exact kQ fo H4 nfo0 (eH.trans e4) (e4 fo _ hf)

abbrev s_law : Stmt := top 14
abbrev N_law : List Str := ["script", "long", "wishes", "others", "first", "second", "gone", "place", "k", "wish"]
theorem sc_law : FnScope N_law ["script"] (defScope s_law) := ⟨rfl, rfl, rfl, by decide +kernel, rfl, by decide +kernel, by decide +kernel⟩
theorem bw_law : BindsWell "law" s_law ["script"] := fun _ _ _ _ _ _ us hl => match us, hl with | [_], _ => rfl

/-- taken(moored(long, list(wishes)), count) -/
theorem taken_fresh {K : Kf} {σ : L2.St} {H : Hp} {E E' : XK} {tn tw tc : TE} {a : Addr} {long : Nat} {ws : List Nat} (h1 : ∀ H1, Ex H H1 → Ev tn σ H1 (.int (long : Int))) (h2 : EvL tw σ H (vn ws)) (h3 : ∀ H1, Ex H H1 → Ev tc σ H1 (.int (ws.length : Int))) (hR : Row long ws) :
    EvLP (tCall (sp_l_taken K) [] E (tCons (tCall (sp_moored K) [] E' (tCons tn (tCons tw tNil))) (tCons tc tNil))) σ H (fun xs => ∃ s : List Int, xs = s.map V.int ∧ s.Perm ((placesOf (mooredL long ws)).map Int.ofNat) ∧ s.Pairwise (· ≤ ·)) := fun H1 e Q q =>
  h1 H1 e H1 (Ex.refl H1) _ fun H2 e2 => h2 H2 (e.trans e2) _ fun pw H3 npw e3 hpw => ⟨pw, long, ws, rfl, sq_of hpw, hR, fun pf H4 npf e4 hpf => h3 H4 (((e.trans e2).trans e3).trans e4) H4 (Ex.refl _) _ fun H5 e5 =>
    ⟨pf, mooredL long ws, by rw [mooredL_len]; rfl, e5 _ _ hpf, by rw [mooredL_len]; have := hR.few; have := hR.hi; omega, fun s hs1 hs2 p H6 np e6 hp => q p _ H6 (fresh_back ((e2.trans e3).trans (e4.trans e5)) np) (((e2.trans e3).trans (e4.trans e5)).trans e6) hp ⟨s, rfl, hs1, hs2⟩⟩⟩
theorem ev_lenSet {K : Kf} {σ : L2.St} {H : Hp} {ta : TE} {l : Addr} {ns : List Int} (h : Ev ta σ H (.ref l)) (hS : SqL K H l (ns.map V.int)) (hn : ns.Nodup) (hl : ns.length ≤ 4000) : Ev (RZ.tLenSetI K ta) σ H (.int (ns.length : Int)) := fun H1 e Q q =>
  h H1 e _ fun H2 e2 => ⟨l, ns, rfl, ex_l (e.trans e2) hS, hn, hl, q H2 e2⟩
theorem ok_law {f : Addr} {fd : FuncData} (F : FunD K "law" "law" (defArgs s_law) (defBody s_law) (defScope s_law) [] [] f fd) (T : Txt mg) (O_l_quay_by : Own P w K mg base CX0 2 "_law_quay_by" ["script"] (sp_l_quay_by K)) (O_l_shuffled : Own P w K mg base CX0 2 "_law_shuffled" ["script", "first", "size"] (sp_l_shuffled K)) (O_l_taken : Own P w K mg base CX0 2 "_law_taken" ["found", "count"] (sp_l_taken K)) (O_moored : Own P w K mg base CX0 2 "moored" ["long", "wishes"] (sp_moored K)) : FnOk P w K mg base CX0 3 f fd ["script"] (spLaw K) := by
  refine F.ok sc_law (fun vs H Q E h => ?_) (fun cdv A outer s H vs Q E hr h => ?_)
  · obtain ⟨a, ns, rfl, _⟩ := h
    rfl
  · obtain ⟨a, ns, rfl, hS, hlen, kQ⟩ := h
    have hr_l_quay_by : Room 2 _ := hr.mono (by decide)
    have hr_l_shuffled : Room 2 _ := hr.mono (by decide)
    have hr_l_taken : Room 2 _ := hr.mono (by decide)
    have hr_moored : Room 2 _ := hr.mono (by decide)
    refine ⟨_, PSs.nox (pss_cons (ps_asg (pe_own O_l_quay_by hr_l_quay_by pass0 (pa_cons (pv 0) pa_nil)) (pg_tup (by rfl) (pgs_cons (pg_name (i := 1) sc_law.nd rfl (Or.inl rfl)) (pgs_cons (pg_name (i := 2) sc_law.nd rfl (Or.inr rfl)) pgs_nil))))
        (pss_cons (ps_setLc (i := 3) (own := [("k", 8)]) (g := gName 8) rfl sc_law.nd rfl rfl (sw_true rfl rfl rfl (by decide +kernel)) (pi_list (pe_own O_l_shuffled hr_l_shuffled pass0 (pa_cons (pv 0) (pa_cons pe_int (pa_cons (pe_callB cr_len (by rfl) T.len PySem.boot_len (pa_cons (pv 2) pa_nil)) pa_nil))))) (blkOk_by (N := N_law) (sc := defScope s_law) (by decide +kernel)) (fun _ _ _ _ _ => pg_name (i := 8) sc_law.nd rfl (.inl rfl)) (fun _ _ _ _ _ => pts_nil) (fun _ _ _ _ _ => (pe_ix (ix_listK (K := K) rfl) (pv 2) (pv 8) (fun _ _ => rfl))))
        (pss_cons (ps_set (i := 4) sc_law.nd rfl (Or.inl rfl) (pe_own O_l_taken hr_l_taken pass0 (pa_cons (pe_own O_moored hr_moored pass0 (pa_cons (pv 1) (pa_cons (pe_callTy cr_list (by rfl) T.list (by decide +kernel) (pa_cons (pv 2) pa_nil)) pa_nil))) (pa_cons (pe_callB cr_len (by rfl) T.len PySem.boot_len (pa_cons (pv 2) pa_nil)) pa_nil))))
        (pss_cons (ps_set (i := 5) sc_law.nd rfl (Or.inl rfl) (pe_own O_l_taken hr_l_taken pass0 (pa_cons (pe_own O_moored hr_moored pass0 (pa_cons (pv 1) (pa_cons (pe_callTy cr_list (by rfl) T.list (by decide +kernel) (pa_cons (pv 3) pa_nil)) pa_nil))) (pa_cons (pe_callB cr_len (by rfl) T.len PySem.boot_len (pa_cons (pv 2) pa_nil)) pa_nil))))
        (pss_cons (ps_if (PW.pt (pw_or (pt_cmpR op_isN (pv 4) pe_non (nomark _)) (pw_or (pt_cmpR op_isN (pv 5) pe_non (nomark _)) (pw_or (pt_cmpR (op_neD hr.units) (pv 4) (pv 5) (nomark _)) (pw_or1 (pt_cmpR op_ne (RZ.pe_lenSetI (by rfl) T.len (by rfl) T.set (pv 4)) (pe_callB cr_len (by rfl) T.len PySem.boot_len (pa_cons (pv 4) pa_nil)) (nomark _)))))))
        (pss_one (ps_ret pe_bl))
        pss_nil)
        (pss_cons (ps_set (i := 6) sc_law.nd rfl (Or.inl rfl) pe_int)
        (pss_cons (ps_for PassesOwn.never rfl (pi_range1 (by rfl) T.range (pa_cons (pv 1) pa_nil)) (pg_name (i := 7) sc_law.nd rfl (Or.inr rfl))
        (pss_one (ps_set (i := 6) sc_law.nd rfl (Or.inl rfl) (pe_callB (cr_max2 rfl) (by rfl) T.max (by decide +kernel) (pa_cons (pv 6) (pa_cons (pe_op op_sub (pe_callB cr_len (by rfl) T.len PySem.boot_len (pa_cons (pe_lc (own := [("wish", 9)]) (g := gName 9) rfl sc_law.nd (pi_list (pv 2)) (blkOk_by (N := N_law) (sc := defScope s_law) (by decide +kernel)) (fun _ _ _ _ _ => pg_name (i := 9) sc_law.nd rfl (.inl rfl)) (fun _ _ _ _ _ => (pts_one (pt_cmpR op_ge (pv 9) (pv 7) (nomark _)))) (fun _ _ _ _ _ => (pv 9))) pa_nil)) (pe_op op_sub (pv 1) (pv 7))) pa_nil))))))
        (pss_one (ps_ret (pe_cmpR op_eq (pe_callB cr_len (by rfl) T.len PySem.boot_len (pa_cons (pv 4) pa_nil)) (pe_op op_sub (pe_callB cr_len (by rfl) T.len PySem.boot_len (pa_cons (pv 2) pa_nil)) (pv 6)) (nomark _))))))))))), ?_⟩
    try dsimp only [cxOf]
    refine q_asg2 (sv_quay_by (by walk_at "ea") hS) ?_
    rintro x y H1 e1 ⟨long, ws, wp, rfl, rfl, hR, hw⟩
    obtain ⟨r1, r2, r3, r4⟩ := id hR
    have hS1 := ex_l e1 hS
    refine q_asgLP (P := fun xs => ∃ us : List Nat, xs = vn us ∧ us.Perm ws) (lp_imp (lp_lc (K := K) (P := fun xs => ∃ l : List Nat, xs = vn l ∧ l.Perm (List.range ws.length)) (fun _ => true) (fun x => match x with | .int i => .int ((ws.getD i.toNat 0 : Nat) : Int) | _ => .non) (sv_shuffled (n := ws.length) (ea_cons (by walk_at "ev") (ea_cons (by walk_at "ev") (ea_cons (ev_is (ev_len (K := K) (xs := vn ws) (ev_var rfl) (sq_of hw)) (by rw [vn_len])) ea_nil))) hS1 (by omega) (by omega)) ?_ (fun _ => rfl) (fun _ _ _ _ _ _ => et_yes) ?_) ?_) fun op xs H2 nop e2 hop hP => ?_
    · rintro xs ⟨l, rfl, hl⟩
      rw [vn_len, hl.length_eq, List.length_range]
      omega
    · rintro xs x H2 ⟨l, rfl, hl⟩ e2 hx _
      unfold vn at hx
      obtain ⟨k, hk, rfl⟩ := List.mem_map.mp hx
      have hk2 : k < ws.length := List.mem_range.mp (hl.mem_iff.mp hk)
      have hat : (vn ws)[k]? = some (.int ((ws.getD k 0 : Nat) : Int)) := vn_get (by rw [List.getElem?_eq_getElem hk2, List.getD_eq_getElem?_getD, List.getElem?_eq_getElem hk2]; rfl)
      exact ev_is (ev_ixL (i := (k : Int)) (ev_var rfl) (ev_var rfl) (sq_of (e2 _ _ hw)) (atI_nat hat)) rfl
    · rintro ys ⟨xs, ⟨l, rfl, hl⟩, rfl⟩
      refine ⟨l.map fun k => ws.getD k 0, ?_, ?_⟩
      · rw [List.filter_eq_self.mpr fun _ _ => rfl]
        unfold vn
        rw [List.map_map, List.map_map]
        rfl
      · have h1 := hl.map fun k => ws.getD k 0
        have h2 : (List.range ws.length).map (fun k => ws.getD k 0) = ws := by
          refine List.ext_getElem? fun k => ?_
          rw [List.getElem?_map]
          by_cases hk : k < ws.length
          · rw [List.getElem?_range hk, List.getElem?_eq_getElem hk]
            show some (ws.getD k 0) = _
            rw [List.getD_eq_getElem?_getD, List.getElem?_eq_getElem hk]
            rfl
          · rw [List.getElem?_eq_none (by rw [List.length_range]; omega), List.getElem?_eq_none (by omega)]
            rfl
        rw [h2] at h1
        exact h1
    obtain ⟨us, rfl, hperm⟩ := hP
    have hRu : Row long us := ⟨r1, r2, by rw [hperm.length_eq]; exact r3, fun w m => r4 w (hperm.mem_iff.mp m)⟩
    have hw2 := e2 _ _ hw
    refine q_asgLP (taken_fresh (K := K) (a := wp) (long := long) (ws := ws) (fun H3 e3 => ev_var rfl) (el_list (ev_var rfl) (sq_of hw2)) (fun H3 e3 => ev_is (ev_len (K := K) (xs := vn ws) (ev_var rfl) (sq_of (e3 _ _ hw2))) (by rw [vn_len])) hR) fun fp xs H3 nfp e3 hfp hP => ?_
    obtain ⟨s1, rfl, p1, q1⟩ := hP
    have hw3 := e3 _ _ hw2
    have hop3 := e3 _ _ hop
    refine q_asgLP (taken_fresh (K := K) (a := wp) (long := long) (ws := us) (fun H4 e4 => ev_var rfl) (el_list (ev_var rfl) (sq_of hop3)) (fun H4 e4 => ev_is (ev_len (K := K) (xs := vn ws) (ev_var rfl) (sq_of (e4 _ _ hw3))) (by rw [vn_len, hperm.length_eq])) hRu) fun gp xs H4 ngp e4 hgp hP => ?_
    obtain ⟨s2, rfl, p2, q2⟩ := hP
    have es : s2 = s1 := sorted_uniq (p2.trans (((places_perm hperm hRu.lt).map Int.ofNat).trans p1.symm)) q2 q1
    subst es
    have hfp4 := e4 _ _ hfp
    have hn : s2.Nodup := p1.nodup_iff.mpr (by
      refine List.Pairwise.map _ ?_ (placesOf_nodup (long := long) (ws := ws))
      intro a b h e
      exact h (Int.ofNat.inj e))
    have hsl : s2.length + over ws long = ws.length := by
      have h1 := p1.length_eq
      rw [List.length_map] at h1
      have h2 := placesOf_len (mooredL long ws)
      rw [gone_count r4, mooredL_len] at h2
      omega
    refine q_when (b := false) (et_is (et_or (et_test (ev_op (ev_var rfl) ev_c rv_isN)) fun _ => et_or (et_test (ev_op (ev_var rfl) ev_c rv_isN)) fun _ => et_or (et_test (ev_neL (ev_var rfl) (ev_var rfl) (sq_of hfp4) (sq_of hgp) (ints_fl3 _) (ints_fl3 _))) fun _ => et_test (ev_op (ev_lenSet (ev_var rfl) (sq_of hfp4) hn (by omega)) (ev_len (xs := s2.map V.int) (ev_var rfl) (sq_of hfp4)) (rv_ne rfl))) ?_) (fun h => by cases h) fun _ H5 e5 => ?_
    · rw [List.length_map, decide_eq_true (show List.map V.int s2 = List.map V.int s2 from rfl), decide_eq_true (show V.int (s2.length : Int) = V.int (s2.length : Int) from rfl)]
      rfl
    refine q_asg (by walk_at "ev") fun H6 e6 => ?_
    have hw6 := e6 _ _ (e5 _ _ (e4 _ _ hw3))
    have hfp6 := e6 _ _ (e5 _ _ hfp4)
    refine q_forR1 (n := (long : Int)) (by walk_at "ea") (by omega) (fun i σ' H' => ∃ o7, σ' = [some (.ref a), some (.int (long : Int)), some (.ref wp), some (.ref op), some (.ref fp), some (.ref gp), some (.int (goneL long ws i)), o7, none, none] ∧ Ex H6 H')
      (fun H7 e7 => ⟨none, rfl, e7⟩) ?_ ?_
    · rintro i σ' H' hi ⟨o7, rfl, eH⟩
      have hw' : SqL K H' wp (vn ws) := sq_of (eH _ _ hw6)
      refine s_asg (v := .int (goneL long ws (i + 1))) (ev_is (ev_max2 (ev_var rfl) (ev_op (ev_count (K := K) (ws := ws) (fun w => decide (i ≤ w)) (ev_var rfl) hw' (by omega) (fun _ => rfl) (fun _ => rfl) fun w H3 e3 hm => et_is (et_test (by walk_at "ev")) (decide_eq_decide.mpr (by omega))) (by walk_at "ev") rv_I0)) ?_) fun H7 e7 => ⟨_, rfl, eH.trans e7⟩
      rw [goneL_succ]
      rfl
    rintro σ' H7 ⟨o7, rfl, e7⟩
    rw [Int.toNat_natCast, goneL_is r4]
    refine s_ret (v := .bl true) (ev_is (ev_op (ev_len (K := K) (xs := s2.map V.int) (ev_var rfl) (sq_of (e7 _ _ hfp6))) (ev_op (ev_len (K := K) (xs := vn ws) (ev_var rfl) (sq_of (e7 _ _ hw6))) (ev_var rfl) rv_I0) (rv_eq rfl)) ?_) fun H8 e8 => kQ H8
    rw [List.length_map, vn_len, decide_eq_true]
    congr 1
    omega

end
def d_l_cell_at : He.DefD := ⟨("_law_cell_at", none), "_law_cell_at", "_law_cell_at", defArgs s_l_cell_at, defBody s_l_cell_at, defScope s_l_cell_at, [], []⟩
def d_l_quay_by : He.DefD := ⟨("_law_quay_by", none), "_law_quay_by", "_law_quay_by", defArgs s_l_quay_by, defBody s_l_quay_by, defScope s_l_quay_by, [], []⟩
def d_l_shuffled : He.DefD := ⟨("_law_shuffled", none), "_law_shuffled", "_law_shuffled", defArgs s_l_shuffled, defBody s_l_shuffled, defScope s_l_shuffled, [], []⟩
def d_l_whole : He.DefD := ⟨("_law_whole", none), "_law_whole", "_law_whole", defArgs s_l_whole, defBody s_l_whole, defScope s_l_whole, [], []⟩
def d_l_taken : He.DefD := ⟨("_law_taken", none), "_law_taken", "_law_taken", defArgs s_l_taken, defBody s_l_taken, defScope s_l_taken, [], []⟩
def d_asked : He.DefD := ⟨("asked", none), "asked", "asked", defArgs s_asked, defBody s_asked, defScope s_asked, [], []⟩
def d_moored : He.DefD := ⟨("moored", none), "moored", "moored", defArgs s_moored, defBody s_moored, defScope s_moored, [], []⟩
def d_law : He.DefD := ⟨("law", none), "law", "law", defArgs s_law, defBody s_law, defScope s_law, [], []⟩
def fns : List He.DefD := [d_l_cell_at, d_l_quay_by, d_l_shuffled, d_l_whole, d_l_taken, d_asked, d_moored, d_law]
def fas : List He.Fa := [.free "ValueError", .free "bool", .free "int", .free "isinstance", .free "len", .free "list", .free "max", .free "min", .free "range", .free "reversed", .free "set", .free "sorted", .free "str", .free "sum", .free "tuple", .glo "_law_cell_at", .glo "_law_quay_by", .glo "_law_shuffled", .glo "_law_whole", .glo "_law_taken", .glo "asked", .glo "moored", .glo "law", .int "LONGEST" 40]
def mores : Kf → Bool := fun _ => true
abbrev R : PySem.W.OpenRow := PySem.W.OpenLaw.row PySem.Challenge.rw_wishmoor_k03_whole_any_order
abbrev hk : PySem.W.Hook := hookM 5 fas fns mores
def ob (s : PySem.W.SharedT) : AlM := obsM 5 fas fns mores (HandSHeadRun.getT s)
theorem ob_eq (s : PySem.W.SharedT) : ob s = hk.obs s.abs := obsM_eq (HandSHeadRun.getT_eq s)
def loose : List PySem.Str := ["asked", "moored", "_law_cell_at", "_law_whole", "_law_quay_by", "_law_shuffled", "_law_taken", "LONGEST", "MoorError", "NoQuay", "NoRow"]
set_option maxHeartbeats 0 in
theorem run (w : World) : HandSHeadRun.RunEq R (PySem.W.view R.prog [14]) hk ob 4000 loose w := by
  intro os
  kernel_rfl
theorem facts {P : Program} {w : World} {K : Kf} {h : Heap} {mg : Mg} {f : Addr} (X : K.In h) (G : h.Ns mainGlobals mg) (hfa : mg ("law" : Str) = some (.ref f)) (c : SaysM fas fns mores K) :
    ∃ fd : FuncData, (∀ (s : Shared) (v : Value), BindsTo s fd ⟨[v], []⟩ [("script", v)]) ∧ ∀ base : Heap, K.In base → base.Ns mainGlobals mg → FnOk P w K mg base CX0 3 f fd ["script"] (spLaw K) := by
  have T : Txt mg := ⟨He.free_ok X G (c.1.fact 4), He.free_ok X G (c.1.fact 8), He.free_ok X G (c.1.fact 5), He.free_ok X G (c.1.fact 3), He.free_ok X G (c.1.fact 2), He.free_ok X G (c.1.fact 1), He.free_ok X G (c.1.fact 12), He.free_ok X G (c.1.fact 14), He.free_ok X G (c.1.fact 9), He.free_ok X G (c.1.fact 11), He.free_ok X G (c.1.fact 13), He.free_ok X G (c.1.fact 7), He.free_ok X G (c.1.fact 6), He.free_ok X G (c.1.fact 10), He.free_ok X G (c.1.fact 0)⟩
  obtain ⟨fd_l_cell_at, F_l_cell_at⟩ := c.1.def_ 0 (d := d_l_cell_at) rfl
  have D_l_cell_at : Def K mg "_law_cell_at" s_l_cell_at := ⟨_, fd_l_cell_at, F_l_cell_at, He.glo_ok X G (c.1.fact 15)⟩
  obtain ⟨fd_l_quay_by, F_l_quay_by⟩ := c.1.def_ 1 (d := d_l_quay_by) rfl
  have D_l_quay_by : Def K mg "_law_quay_by" s_l_quay_by := ⟨_, fd_l_quay_by, F_l_quay_by, He.glo_ok X G (c.1.fact 16)⟩
  obtain ⟨fd_l_shuffled, F_l_shuffled⟩ := c.1.def_ 2 (d := d_l_shuffled) rfl
  have D_l_shuffled : Def K mg "_law_shuffled" s_l_shuffled := ⟨_, fd_l_shuffled, F_l_shuffled, He.glo_ok X G (c.1.fact 17)⟩
  obtain ⟨fd_l_whole, F_l_whole⟩ := c.1.def_ 3 (d := d_l_whole) rfl
  have D_l_whole : Def K mg "_law_whole" s_l_whole := ⟨_, fd_l_whole, F_l_whole, He.glo_ok X G (c.1.fact 18)⟩
  obtain ⟨fd_l_taken, F_l_taken⟩ := c.1.def_ 4 (d := d_l_taken) rfl
  have D_l_taken : Def K mg "_law_taken" s_l_taken := ⟨_, fd_l_taken, F_l_taken, He.glo_ok X G (c.1.fact 19)⟩
  obtain ⟨fd_asked, F_asked⟩ := c.1.def_ 5 (d := d_asked) rfl
  have D_asked : Def K mg "asked" s_asked := ⟨_, fd_asked, F_asked, He.glo_ok X G (c.1.fact 20)⟩
  obtain ⟨fd_moored, F_moored⟩ := c.1.def_ 6 (d := d_moored) rfl
  have D_moored : Def K mg "moored" s_moored := ⟨_, fd_moored, F_moored, He.glo_ok X G (c.1.fact 21)⟩
  obtain ⟨fd, F⟩ := c.1.def_ 7 (d := d_law) rfl
  have e := hfa.symm.trans (He.glo_ok X G (c.1.fact 22))
  cases e
  obtain ⟨tLONGEST, cLONGEST⟩ := He.int_ok X G (c.1.fact 23)
  have b := FunD.bindsA (ps := ["script"]) F fun _ _ _ _ _ _ us hl => match us, hl with | [_], _ => rfl
  refine ⟨fd, fun s v => b s [v] rfl, fun base _ _ => ?_⟩
  have O_l_cell_at : Own P w K mg base CX0 1 "_law_cell_at" ["script", "k"] (sp_l_cell_at K) := ok_l_cell_at D_l_cell_at T
  have O_l_quay_by : Own P w K mg base CX0 2 "_law_quay_by" ["script"] (sp_l_quay_by K) := ok_l_quay_by D_l_quay_by T O_l_cell_at
  have O_l_shuffled : Own P w K mg base CX0 2 "_law_shuffled" ["script", "first", "size"] (sp_l_shuffled K) := ok_l_shuffled D_l_shuffled T O_l_cell_at
  have O_l_whole : Own P w K mg base CX0 1 "_law_whole" ["found"] sp_l_whole := ok_l_whole D_l_whole T
  have O_l_taken : Own P w K mg base CX0 2 "_law_taken" ["found", "count"] (sp_l_taken K) := ok_l_taken D_l_taken T O_l_whole
  have O_asked : Own P w K mg base CX0 1 "asked" ["long", "wishes"] (sp_asked K) := ok_asked D_asked T cLONGEST
  have O_moored : Own P w K mg base CX0 2 "moored" ["long", "wishes"] (sp_moored K) := ok_moored D_moored T O_asked
  exact ok_law F T O_l_quay_by O_l_shuffled O_l_taken O_moored

end Wm
open PySem PySem.W PySem.Calls PyProof.Rows
set_option maxHeartbeats 0 in
theorem PySem.Challenge.cw_wishmoor_k03_whole_any_order_holds : PySem.Challenge.rw_wishmoor_k03_whole_any_order.Holds := by
  w_on; o_law
  refine HandSHeadRun.head_any (r := OpenLaw.row PySem.Challenge.rw_wishmoor_k03_whole_any_order) (q := view (OpenLaw.row PySem.Challenge.rw_wishmoor_k03_whole_any_order).prog [14]) (H := Wm.hk) (ob := Wm.ob) (M := 4000) (loose := Wm.loose) (d := HandSHeadRun.topDef (OpenLaw.row PySem.Challenge.rw_wishmoor_k03_whole_any_order).prog 14) (kwd := []) Wm.ob_eq
    (by kernel_rfl) (fun s => by kernel_rfl) Wm.run (by kernel_rfl) (by kernel_rfl) (by kernel_rfl) (by rfl) (by first | assumption | decide +kernel) (by decide +kernel) ⟨rfl, rfl, rfl, rfl, rfl, by decide +kernel⟩ ?hw ?hc
  case hw => w_witness2
  case hc =>
    refine L2.walk_ofE (l := PySem.Challenge.rw_wishmoor_k03_whole_any_order) (n := 63) (k := 3) (x := "script") (CX := L2.CX0) rfl (by decide) (by kernel_rfl) ⟨rfl, by decide, by decide⟩ ?F (fun _ _ _ _ z => z)
    intro w mg fa h Y G hmg0
    obtain ⟨K, KX, c⟩ := Y
    have hmg : mg ("law" : PySem.Str) = some (.ref fa) := by
      have e : (HandSHeadRun.topDef (OpenLaw.row PySem.Challenge.rw_wishmoor_k03_whole_any_order).prog 14).name = ("law" : PySem.Str) := by kernel_rfl
      rw [← e]
      exact hmg0
    obtain ⟨fd, hb, hF⟩ := Wm.facts (P := (PySem.Challenge.rw_wishmoor_k03_whole_any_order).prog) (w := w) KX G hmg c
    exact ⟨K, fd, Wm.spLaw K, KX, hb, fun H a ns hl _ hS => ⟨a, ns, rfl, hS, hl, fun _ => rfl⟩, hF⟩
