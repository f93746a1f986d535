import PyProof.Rows.All
import Wide.All
import OpenK.AllK
import Wide.FinOn
import KE.KStateDown
import Lean
import HandS.Base
import HandS.Call
import HandS.List
import HandS.Comp
import HandS.Ends
import HandS.Dict
import HandS.Iter
import HandS.More
import HandS.Conv
import HandS.Exc
import HandS.Words
import HandS.WordsList
import HandS.WordsDict
import HandS.WordsExc
import HandS.Defaults
import HandS.IsInst
import HandS.Star
import HandS.Style
import HandS.TupAny
import HandS.TupLe
import HandS.Deep
import HandS.Zip
import HandS.Walk
import HandS.Wide
import HandS.RaiseMore
import HandS.Evl
import HandS.Head0
import HandS.Head1
import HandS.Head2
import HandS.HeadEnd
import HandS.HeadHook1
import HandS.HeadHook2
import PySem.Challenge.RW_allnear_k01_checks_of_any_value
set_option Elab.async false
set_option linter.all false
set_option maxRecDepth 100000
set_option maxHeartbeats 4000000
/-! ### a layer of my own over HandS: short words -/
namespace Z
open PySem PySem.Spec PyProof.Rows L2

/-- a def as its callers take it -/
structure CallD (K : PySem.W.Frag) (mg : Str → Option Value) (x : Str) (f : Addr) (fd : FuncData) (ps : List Str) : Prop where
  gl : mg x = some (.ref f)
  kp : PySem.W.keepIn K (.ref f) = true
  b : Binds K fd ps []

def noFd : FuncData := PySem.W.fnOf "" "" { posonlyargs := [], args := [], vararg := none, kwonlyargs := [], kw_defaults := [], kwarg := none, defaults := [] } [] { kind := .function, names := [], isGenerator := false, isCoroutine := false } .none .none .none .none none .none .none
def fdOf (K : PySem.W.Frag) (p : Str × Option Str) : FuncData := match K.lookup (He.fAd K p) with
  | some ⟨_, _, .func fd, _⟩ => fd
  | _ => noFd
theorem fdOf_eq {K : PySem.W.Frag} {p : Str × Option Str} {x q : Str} {a : Arguments} {b : List Stmt} {sc : Scope} {dvs : List V} {kws : List (Str × V)} {fd : FuncData} (F : FunD K x q a b sc dvs kws (He.fAd K p) fd) : FunD K x q a b sc dvs kws (He.fAd K p) (fdOf K p) := by
  obtain ⟨oc, od, dV, kV, doc, pm, an, cdv, ct, osl, e1, e2, e3, e4, e5⟩ := F.ex
  have e : fdOf K p = fd := by
    unfold fdOf
    rw [e2]
  rw [e]
  exact F

section
variable {X : Cx} {CX : CXT} {j k n : Nat} {f : Addr} {fd : FuncData} {ps ks : List Str} {sp : Sp} {E : XK} {x : Str} {p pos : Pos} {e : Expr} {es : List Expr} {kws : List Keyword} {t tk : TA} {g : List Value → List Value → List Value} {gV : List V → List V → List V}
theorem pcall (F : FnOk X.prog X.w X.K X.mg X.base CX k f fd ps sp) (hr : Room j X.A) (hle : k ≤ j) (C : CallD X.K X.mg x f fd ps) (hx : Passes CX X E) (ha : PA X (e :: es) t) (hg : Gl X x := by rfl)
    (hdb : (x == ("__debug__" : Str)) = false := by decide) (he : starEach (e :: es) X.env = (false, eval e X.env) :: starEach es X.env := by rfl) (hpl : (backTo pos (starEach es X.env)).any (·.1) = false := by rfl) :
    PE X (.Call (.Name x p) (e :: es) [] pos) (tCall sp [] E t) := pe_call F (hr.mono hle) hg C.gl C.kp C.b .nil hx ha hdb he hpl
theorem pcall0 (F : FnOk X.prog X.w X.K X.mg X.base CX k f fd ps sp) (hr : Room j X.A) (hle : k ≤ j) (C : CallD X.K X.mg x f fd ps) (hx : Passes CX X E) (hg : Gl X x := by rfl)
    (hdb : (x == ("__debug__" : Str)) = false := by decide) : PE X (.Call (.Name x p) [] [] pos) (tCall sp [] E tNil) := pe_call0 F (hr.mono hle) hg C.gl C.kp C.b .nil hx hdb
theorem pcallN (F : FnOk X.prog X.w X.K X.mg X.base CX k f fd ps sp) (hr : Room j X.A) (hle : k ≤ j) (C : CallD X.K X.mg x f fd ps) (hb : KBn X.K fd ps n ks g gV) (hx : Passes CX X E)
    (ha : PA X (e :: es) t) (hkw : PK X kws tk) (hg : Gl X x := by rfl) (hall : (backToKw pos (keywordEach kws X.env)).all (·.1.isSome) = true := by rfl) (hks : (backToKw pos (keywordEach kws X.env)).filterMap (·.1) = ks := by rfl)
    (hdb : (x == ("__debug__" : Str)) = false := by decide) (he : starEach (e :: es) X.env = (false, eval e X.env) :: starEach es X.env := by rfl)
    (hpl : ((backTo pos (starEach (e :: es) X.env)).any (·.1) || (backToKw pos (keywordEach kws X.env)).any (·.1.isNone)) = false := by rfl) :
    PE X (.Call (.Name x p) (e :: es) kws pos) (tCallN n ks.length sp gV E t tk) := pe_callN F (hr.mono hle) hg C.gl C.kp hb hx ha hkw hall hks hdb he hpl
theorem pcallN0 (F : FnOk X.prog X.w X.K X.mg X.base CX k f fd ps sp) (hr : Room j X.A) (hle : k ≤ j) (C : CallD X.K X.mg x f fd ps) (hb : KBn X.K fd ps 0 ks g gV) (hx : Passes CX X E)
    (hkw : PK X kws tk) (hg : Gl X x := by rfl) (hall : (backToKw pos (keywordEach kws X.env)).all (·.1.isSome) = true := by rfl) (hks : (backToKw pos (keywordEach kws X.env)).filterMap (·.1) = ks := by rfl)
    (hdb : (x == ("__debug__" : Str)) = false := by decide)
    (hpl : ((backTo pos (starEach [] X.env)).any (·.1) || (backToKw pos (keywordEach kws X.env)).any (·.1.isNone)) = false := by rfl) :
    PE X (.Call (.Name x p) [] kws pos) (tCallN 0 ks.length sp gV E tNil tk) := by
  refine ⟨fun pins s σ H Q I h => ?_⟩
  refine wpAny_Call_Name_kw (ld_glob I hg C.gl ?_ hdb)
  refine PySem.W.callWith_KW0 (h₀ := X.base) I.ok.mod.kin C.kp hall ?_ hpl
  refine thn (hkw.run pos pins s σ H _ I h) fun ws s2 ⟨zs, H2, I2, rz, l1, l2, q2⟩ => ⟨I2.kIn, ?_⟩
  rw [hks]
  exact run_fnN (us := []) F (hr.mono hle) hb hx I2 .nil rz l1 l2 q2
end
/-- keywords for a def without defaults -/
theorem kbn0 {K : PySem.W.Frag} {x qual : Str} {params : Arguments} {body : List Stmt} {scope : Scope} {kws : List (Str × V)} {f : Addr} {fd : FuncData} {ps : List Str} (F : FunD K x qual params body scope [] kws f fd) (n : Nat) (ks : List Str) (g : {α : Type} → List α → List α → List α)
    (hrel : ∀ {vs zs : List V} {us ws : List Value}, Vals vs us → Vals zs ws → Vals (g vs zs) (g us ws))
    (h : ∀ (kV doc pm : Value) (an : Option Addr) (cdv ct : Value) (us ws : List Value), us.length = n → ws.length = ks.length → bindArgs (PySem.W.fnOf x qual params body scope .none kV doc pm an cdv ct) ⟨us, ks.zip ws⟩ = pure (ps.zip (g us ws))) : KBn K fd ps n ks (fun us ws => g us ws) (fun vs zs => g vs zs) := by
  obtain ⟨oc, od, dV, kV, doc, pm, an, cdv, ct, osl, rfl, lk, hcd, hD, hK⟩ := F.ex
  rcases hD with ⟨_, rfl⟩ | ⟨e, _⟩
  · exact ⟨fun s us ws _ l1 l2 => .of_eq (h kV doc pm an cdv ct us ws l1 l2), fun r1 r2 => hrel r1 r2⟩
  · exact absurd rfl e

section
variable {X : Cx} {pos pos' : Pos} {x : Str}
theorem pgn (i : Nat) (hN : X.N.Nodup) (hi : X.N[i]? = some x := by rfl) (hx : Loc X.env.scope x := by first | exact Or.inl rfl | exact Or.inr rfl) (hf : X.fn x = true ∨ X.env.scope.names.lookup x = some .local := by first | exact .inl rfl | exact .inr rfl | assumption) :
    PG X (.Name x pos) (gName i) := pg_name hN hi hx hf
theorem ps_setN (i : Nat) {e : Expr} {te : TE} (hN : X.N.Nodup) (he : PE X e te) (hi : X.N[i]? = some x := by rfl) (hx : Loc X.env.scope x := by first | exact Or.inl rfl | exact Or.inr rfl) (hs : swapsWith e (some (.Name x pos')) pos.line X.env = pure false := by rfl)
    (hf : X.fn x = true ∨ X.env.scope.names.lookup x = some .local := by first | exact .inl rfl | exact .inr rfl | assumption) : PS X (.Assign [.Name x pos'] e pos) (tAsg te (gName i)) := ps_set hN hi hx he hs hf
theorem blk_k {N : List Str} {sc scope : Scope} {own : List (Str × Nat)} (h : blkC N sc scope own = true) : BlkOk N sc scope own := blkOk_by h
/-- a module's int, text -/
theorem pe_gI {i : Int} (hm : ∃ t, X.mg x = some (.int i t)) (hg : Gl X x := by rfl) (hd : (x == ("__debug__" : Str)) = false := by decide) : PE X (.Name x pos) (tC (.int i)) := by
  obtain ⟨t, e⟩ := hm
  exact pe_glob hg e ⟨t, rfl⟩ hd
theorem pe_gS {z : Str} (hm : ∃ t, X.mg x = some (.str z t)) (hg : Gl X x := by rfl) (hd : (x == ("__debug__" : Str)) = false := by decide) : PE X (.Name x pos) (tC (.str z)) := by
  obtain ⟨t, e⟩ := hm
  exact pe_glob hg e ⟨t, rfl⟩ hd
theorem ok0 {P : Program} {w : World} {K : PySem.W.Frag} {mg : Str → Option Value} {base : Heap} {qual : Str} {params : Arguments} {body : List Stmt} {scope : Scope} {dvs : List V} {kws : List (Str × V)} {f : Addr} {fd : FuncData} {N ps : List Str} {k : Nat} {sp : Sp}
    (F : FunD K x qual params body scope dvs kws f fd) (S : FnScope N ps scope) (len : ∀ vs H Q E, sp vs H Q E → vs.length = ps.length)
    (hbody : ∀ (cdv : Value) (A : Around) (outer : List Env) (s : Shared) (H : Hp) (vs : List V) (Q : VK) (E : XK), Room k (A.deeper (envOfC qual scope s.heap.objs.size f cdv)) → sp vs H Q E →
      ∃ t, PSs (cxOf CX0 P w K mg base N qual scope f cdv A outer s H E).nox body t ∧ t { nx := fun _ H' => Q .non H', rt := Q } (start N vs) H) : FnOk P w K mg base CX0 (k + 1) f fd ps sp :=
  F.ok S len fun cdv A outer s H vs Q E hr h => by
    obtain ⟨t, h, q⟩ := hbody cdv A outer s H vs Q E hr h
    exact ⟨t, h.nox, q⟩
end

/-! ### heaps: what stays -/
/-- all but the object at w stays -/
def Kp (w : Addr) (H H' : Hp) : Prop := ∀ b o, b ≠ w → H b = some o → H' b = some o
section
variable {w p a : Addr} {H H1 H2 : Hp} {o u : HO} {K : PySem.W.Frag} {xs : List V}
theorem Kp.refl : Kp w H H := fun _ _ _ e => e
theorem Kp.trans (h : Kp w H H1) (k : Kp w H1 H2) : Kp w H H2 := fun b o n e => k b o n (h b o n e)
theorem Kp.new (h : Kp w H H1) (n : H1 p = none) : Kp w H (upd H1 p o) := fun b u nb e => by
  have e1 := h b u nb e
  rw [upd_ne (ne_of_none e1 n)]
  exact e1
theorem Kp.at_ (h : Kp w H H1) (n : a ≠ w) (e : H a = some o) : H1 a = some o := h a o n e
theorem Kp.self (h : Kp w H H1) : Kp w H (upd H1 w o) := fun b u nb e => by
  rw [upd_ne nb]
  exact h b u nb e
theorem kp_same (h : Same H H1) : Kp w H H1 := fun b o _ e => h b o e
theorem same_new (n : H p = none) : Same H (upd H p o) := fun b u e => by
  rw [upd_ne (ne_of_none e n)]
  exact e
theorem _root_.L2.Same.newB (h : Same H H1) (n : H1 p = none) : Same H (upd H1 p o) := h.trans (same_new n)
theorem same_at (h : Same H H1) (e : H a = some o) : H1 a = some o := h a o e
theorem Same.tup (e : Same H H1) (h : SqT K H a xs) : SqT K H1 a xs := by
  rcases h with (h | ⟨o, h⟩) | h
  · exact .inl (.inl (e _ _ h))
  · exact .inl (.inr ⟨o, e _ _ h⟩)
  · exact .inr h
theorem l_of (h : H a = some (.lst xs)) : SqL K H a xs := SqL.of h
theorem t_of (h : H a = some (.tup xs)) : SqT K H a xs := SqT.of h
end
theorem lay_ints : ∀ ns : List Int, PyData.canLayAll0 (ns.map PyData.int) = true
  | [] => rfl
  | n :: r => by
    show (PyData.canLay0 (.int n) && PyData.canLayAll0 (r.map PyData.int)) = true
    rw [lay_ints r] <;> rfl
theorem depth_ints : ∀ ns : List Int, PyData.depthAll (ns.map PyData.int) = 0
  | [] => rfl
  | n :: r => by
    show max (PyData.depth (.int n)) (PyData.depthAll (r.map PyData.int)) = 0
    rw [depth_ints r] <;> rfl
theorem shaped_ints (ns : List Int) : SeqAt.shaped (.list (ns.map PyData.int)) = true := by
  unfold SeqAt.shaped
  show (PyData.canLayAll0 (ns.map PyData.int) && decide (PyData.depthAll (ns.map PyData.int) + 1 ≤ 64)) = true
  rw [lay_ints, depth_ints] <;> rfl
theorem shaped_intsT (ns : List Int) : SeqAt.shaped (.tuple (ns.map PyData.int)) = true := by
  unfold SeqAt.shaped
  show (PyData.canLayAll0 (ns.map PyData.int) && decide (PyData.depthAll (ns.map PyData.int) + 1 ≤ 64)) = true
  rw [lay_ints, depth_ints] <;> rfl
theorem dec_eq {p q : Prop} [Decidable p] [Decidable q] (h : p ↔ q) : decide p = decide q := decide_eq_decide.mpr h
theorem sz {n : Nat} (h : n ≤ 100000) : n ≤ sizeLine := Nat.le_trans h (by decide)
theorem szl {n : Nat} (h : n < 100000) : n < sizeLine := Nat.lt_of_lt_of_le h (by decide)
theorem at_nat {xs : List V} {z : Int} {j : Nat} {v : V} (e : z = (j : Int)) (h : xs[j]? = some v) : atI xs z = some v := by
  rw [e]
  exact atI_nat h
theorem iteS {b : Bool} {A B : Prop} (h1 : b = true → A) (h2 : b = false → B) : if b = true then A else B := by
  cases b with
  | true => exact iteT (h1 rfl)
  | false => exact iteF (h2 rfl)
end Z
/-! ### the head's facts, with further Bools -/
namespace Z
open PySem PySem.Spec PyProof.Rows L2
def prm {α : Type} (is : List Nat) (ws : List α) : List α := is.filterMap fun i => ws[i]?
theorem prm_rel {vs : List V} {us : List Value} (r : Vals vs us) : ∀ is : List Nat, Vals (prm is vs) (prm is us)
  | [] => .nil
  | i :: is => by
    have ih := prm_rel r is
    show Vals ((i :: is).filterMap fun i => vs[i]?) ((i :: is).filterMap fun i => us[i]?)
    cases e : vs[i]? with
    | none =>
      have e2 := Vals.none_of r e
      rw [List.filterMap_cons, List.filterMap_cons, e, e2]
      exact ih
    | some x =>
      obtain ⟨u, e2, ru⟩ := Vals.get r e
      rw [List.filterMap_cons, List.filterMap_cons, e, e2]
      exact .cons ru ih
abbrev AlZ : Type := He.AlD × Bool
def SaysZ (fa : List He.Fa) (fn : List He.DefD) (exs : PySem.W.Frag → List Bool) (K : PySem.W.Frag) : Prop := He.SaysD fa fn K ∧ (exs K).all id = true
theorem exAll {l : List Bool} {b : Bool} (h : l.all id = true) (i : Nat) (e : l[i]? = some b) : b = true := List.all_eq_true.mp h b (List.mem_of_getElem? e)
def obsZ (n : Nat) (fa : List He.Fa) (fn : List He.DefD) (exs : PySem.W.Frag → List Bool) (g : Addr → Option Obj) : AlZ := (He.obsDG n fa fn g, (exs (He.frG g (He.asD g n))).all id)
def hookZ (n : Nat) (fa : List He.Fa) (fn : List He.DefD) (exs : PySem.W.Frag → List Bool) : PySem.W.Hook where
  α := AlZ
  obs := fun s => obsZ n fa fn exs s.heap.get?
  val := fun _ => (He.valD fn, true)
  says := fun _ h => ∃ K : PySem.W.Frag, K.In h ∧ SaysZ fa fn exs K
  of := fun _ _ e => ⟨_, He.frG_in, (Prod.mk.inj e).1, (Prod.mk.inj e).2⟩
  keeps := fun _ _ _ ⟨K, hK, c⟩ k => ⟨K, PySem.W.Frag.In.keeps hK k, c⟩
theorem obsZ_eq {n : Nat} {fa : List He.Fa} {fn : List He.DefD} {exs : PySem.W.Frag → List Bool} {g : Addr → Option Obj} {s : Shared} (h : ∀ a, g a = s.heap.get? a) : obsZ n fa fn exs g = (hookZ n fa fn exs).obs s := by
  have e : g = s.heap.get? := funext h
  rw [e] <;> rfl
end Z
/-! ### values' kinds; comprehensions that change nothing -/
namespace Z
open PySem PySem.Spec PyProof.Rows L2
def Ret (v : V) (H : Hp) (Q : VK) : Prop := ∀ H', Same H H' → Q v H'
def isI : V → Bool
  | .int _ => true
  | _ => false
theorem isI_int {x : V} (h : isI x = true) : ∃ i, x = .int i := by
  cases x with
  | int i => exact ⟨i, rfl⟩
  | _ => cases h
/-- a value whose kind is known: its type, what isinstance says of int, bool, list, tuple -/
def KnV (K : PySem.W.Frag) (H : Hp) (x : V) (b3 b4 : Bool) : Prop := ∃ (t : Value) (b1 b2 : Bool), TyX K H x t ∧ PySem.W.kitOne K t (.type "int") = some b1 ∧ PySem.W.kitOne K t (.type "bool") = some b2 ∧
  PySem.W.kitOne K t (.type "list") = some b3 ∧ PySem.W.kitOne K t (.type "tuple") = some b4 ∧ (b1 && !b2) = isI x
section
variable {K : PySem.W.Frag} {H H' : Hp} {a : Addr} {xs : List V} {kvs : List (Key × V)}
theorem kn_int (i : Int) : KnV K H (.int i) false false := ⟨_, true, false, .base (.int i), kit_ty (by decide +kernel), kit_ty (by decide +kernel), kit_ty (by decide +kernel), kit_ty (by decide +kernel), rfl⟩
theorem kn_bl (b : Bool) : KnV K H (.bl b) false false := ⟨_, true, true, .base (.bl b), kit_ty (by decide +kernel), kit_ty (by decide +kernel), kit_ty (by decide +kernel), kit_ty (by decide +kernel), rfl⟩
theorem kn_non : KnV K H .non false false := ⟨_, false, false, .base .non, kit_ty (by decide +kernel), kit_ty (by decide +kernel), kit_ty (by decide +kernel), kit_ty (by decide +kernel), rfl⟩
theorem kn_str (z : Str) : KnV K H (.str z) false false := ⟨_, false, false, .base (.str z), kit_ty (by decide +kernel), kit_ty (by decide +kernel), kit_ty (by decide +kernel), kit_ty (by decide +kernel), rfl⟩
theorem kn_lst (h : H a = some (.lst xs)) : KnV K H (.ref a) true false := ⟨_, false, false, .base (.lst h), kit_ty (by decide +kernel), kit_ty (by decide +kernel), kit_ty (by decide +kernel), kit_ty (by decide +kernel), rfl⟩
theorem kn_tup (h : H a = some (.tup xs)) : KnV K H (.ref a) false true := ⟨_, false, false, .base (.tup h), kit_ty (by decide +kernel), kit_ty (by decide +kernel), kit_ty (by decide +kernel), kit_ty (by decide +kernel), rfl⟩
theorem kn_dK (h : H a = some (.dK kvs)) : KnV K H (.ref a) false false := ⟨_, false, false, .base (.dK h), kit_ty (by decide +kernel), kit_ty (by decide +kernel), kit_ty (by decide +kernel), kit_ty (by decide +kernel), rfl⟩
end
theorem ty_same {K : PySem.W.Frag} {H H' : Hp} {x : V} {t : Value} (ty : TyX K H x t) (s : Same H H') : TyX K H' x t := by
  cases ty with
  | base q =>
    refine .base ?_
    cases q with
    | non => exact .non
    | bl b => exact .bl b
    | int i => exact .int i
    | str z => exact .str z
    | flt y => exact .flt y
    | lst e => exact .lst (s _ _ e)
    | frz e => exact .frz (s _ _ e)
    | tup e => exact .tup (s _ _ e)
    | dK e => exact .dK (s _ _ e)
    | dT e => exact .dT (s _ _ e)
    | ins e c h1 h2 h3 h4 => exact .ins (s _ _ e) c h1 h2 h3 h4
  | byt b => exact .byt b
  | set e => exact .set (s _ _ e)
  | kList e c => exact .kList e c
  | kTuple e c => exact .kTuple e c
  | kDict e c => exact .kDict e c
  | fTuple e => exact .fTuple (s _ _ e)
  | fDict e => exact .fDict (s _ _ e)
theorem KnV.same {K : PySem.W.Frag} {H H' : Hp} {x : V} {b3 b4 : Bool} (h : KnV K H x b3 b4) (s : Same H H') : KnV K H' x b3 b4 := by
  obtain ⟨t, b1, b2, ty, r⟩ := h
  exact ⟨t, b1, b2, ty_same ty s, r⟩
/-- what a comprehension asks once its iterable stands -/
def Lcw (J : It) (g : TG) (tt : TT) (te : TE) (vs : List Nat) (σ : L2.St) (H1 : Hp) (D : Addr) (Qd : Hp → Prop) : Prop :=
  ∃ W : Nat → Nat → Hp → Prop, (∃ m, W 0 m (upd H1 D (.lst []))) ∧
    ∀ i m H, W i m H → (J.stop i H ∧ Qd H) ∨ (J.go i H ∧ ∃ Nx : Hp → Prop, (∀ H', Nx H' → ∃ m', m' < m ∧ W (i + 1) m' H') ∧
      ∀ x H', J.yld i H x H' → g x (wipe σ vs) H' fun σ2 H2 => wipe σ2 vs = wipe σ vs ∧
        tt σ2 H2 fun b H3 => if b = true then te σ2 H3 fun y H4 => ∃ acc, H4 D = some (.lst acc) ∧ acc.length < sizeLine ∧ Nx (upd H4 D (.lst (acc ++ [y]))) else Nx H3)
/-- one turn's asking, by what follows if the item is kept, if it is not -/
def Turn1 (g : TG) (tt : TT) (te : TE) (vs : List Nat) (σ : L2.St) (x : V) (H' : Hp) (Qk : VK) (Qs : Hp → Prop) : Prop :=
  g x (wipe σ vs) H' fun σ2 H2 => wipe σ2 vs = wipe σ vs ∧ tt σ2 H2 fun b H3 => if b = true then te σ2 H3 Qk else Qs H3
section
variable {K : PySem.W.Frag} {a : Addr} {xs : List V} {g : TG} {tt : TT} {te : TE} {vs : List Nat} {σ : L2.St} {H1 : Hp} {D : Addr} {Qd : Hp → Prop}
def PurePv (H1 : Hp) (D : Addr) (f : V → Option V) (xs : List V) (i : Nat) (H' : Hp) : Prop := H' D = some (.lst ((xs.take i).filterMap f)) ∧ Same H1 H'
theorem pure_turn (f : V → Option V) (hD : H1 D = none) (hl : xs.length ≤ 100000)
    (step : ∀ x H' (Qk : VK) (Qs : Hp → Prop), x ∈ xs → Same H1 H' → (∀ y H'', f x = some y → Same H' H'' → Qk y H'') → (∀ H'', f x = none → Same H' H'' → Qs H'') → Turn1 g tt te vs σ x H' Qk Qs)
    {i : Nat} {x : V} {H : Hp} (hi : xs[i]? = some x) (p : PurePv H1 D f xs i H) :
    Turn1 g tt te vs σ x H (fun y H4 => ∃ acc, H4 D = some (.lst acc) ∧ acc.length < sizeLine ∧ PurePv H1 D f xs (i + 1) (upd H4 D (.lst (acc ++ [y])))) (PurePv H1 D f xs (i + 1)) := by
  obtain ⟨p1, p2⟩ := p
  have hlt : i < xs.length := (List.getElem?_eq_some_iff.mp hi).1
  have tk : xs.take (i + 1) = xs.take i ++ [x] := by
    rw [List.take_succ, hi]; rfl
  refine step x H _ _ (List.mem_of_getElem? hi) p2 (fun y H4 hf s4 => ?_) (fun H4 hf s4 => ?_)
  · refine ⟨_, s4 _ _ p1, ?_, ?_, ?_⟩
    · refine szl ?_
      have h1 := List.length_filterMap_le f (xs.take i)
      have h2 : (xs.take i).length ≤ i := List.length_take_le _ _
      omega
    · rw [tk, List.filterMap_append]
      have e : List.filterMap f [x] = [y] := by simp [hf]
      rw [e]; exact upd_same
    · intro b o e
      rw [upd_ne (ne_of_none e hD)]
      exact s4 _ _ (p2 _ _ e)
  · refine ⟨?_, p2.trans s4⟩
    rw [tk, List.filterMap_append]
    have e : List.filterMap f [x] = [] := by simp [hf]
    rw [e, List.append_nil]
    exact s4 _ _ p1
theorem lc_pureL (f : V → Option V) (hx : SqL K H1 a xs) (hD : H1 D = none) (hl : xs.length ≤ 100000)
    (step : ∀ x H' (Qk : VK) (Qs : Hp → Prop), x ∈ xs → Same H1 H' → (∀ y H'', f x = some y → Same H' H'' → Qk y H'') → (∀ H'', f x = none → Same H' H'' → Qs H'') → Turn1 g tt te vs σ x H' Qk Qs)
    (hd : ∀ H', Same H1 H' → H' D = some (.lst (xs.filterMap f)) → Qd H') : Lcw (Itl K a) g tt te vs σ H1 D Qd :=
  lc_list (xs := xs) (PurePv H1 D f xs) ⟨upd_same, same_new hD⟩ (fun i H _ p => p.2.seq hx) (fun i x H hi p => pure_turn f hD hl step hi p)
    (fun H p => hd H p.2 (by have e := p.1; rw [List.take_length] at e; exact e))
theorem lc_pureT (f : V → Option V) (hx : SqT K H1 a xs) (hD : H1 D = none) (hl : xs.length ≤ 100000)
    (step : ∀ x H' (Qk : VK) (Qs : Hp → Prop), x ∈ xs → Same H1 H' → (∀ y H'', f x = some y → Same H' H'' → Qk y H'') → (∀ H'', f x = none → Same H' H'' → Qs H'') → Turn1 g tt te vs σ x H' Qk Qs)
    (hd : ∀ H', Same H1 H' → H' D = some (.lst (xs.filterMap f)) → Qd H') : Lcw (Itt K a) g tt te vs σ H1 D Qd :=
  lc_tup (xs := xs) (PurePv H1 D f xs) ⟨upd_same, same_new hD⟩ (fun i H _ p => Same.tup p.2 hx) (fun i x H hi p => pure_turn f hD hl step hi p)
    (fun H p => hd H p.2 (by have e := p.1; rw [List.take_length] at e; exact e))
/-- lo, lo + 1, .. -/
def rngV (lo : Int) (n : Nat) : List V := (List.range n).map fun (i : Nat) => V.int (lo + (i : Int))
theorem rngV_len (lo : Int) (n : Nat) : (rngV lo n).length = n := by unfold rngV; rw [List.length_map, List.length_range]
theorem rngV_at {lo : Int} {n i : Nat} (h : i < n) : (rngV lo n)[i]? = some (.int (lo + (i : Int))) := by
  unfold rngV
  rw [List.getElem?_map, List.getElem?_range h]; rfl
theorem lc_pureR (f : V → Option V) (lo : Int) (n : Nat) (hD : H1 D = none) (hl : n ≤ 100000)
    (step : ∀ x H' (Qk : VK) (Qs : Hp → Prop), x ∈ rngV lo n → Same H1 H' → (∀ y H'', f x = some y → Same H' H'' → Qk y H'') → (∀ H'', f x = none → Same H' H'' → Qs H'') → Turn1 g tt te vs σ x H' Qk Qs)
    (hd : ∀ H', Same H1 H' → H' D = some (.lst ((rngV lo n).filterMap f)) → Qd H') : Lcw (Itr lo n) g tt te vs σ H1 D Qd :=
  lc_range (lo := lo) (n := n) (PurePv H1 D f (rngV lo n)) ⟨upd_same, same_new hD⟩ (fun i H hi p => pure_turn f hD (by rw [rngV_len]; exact hl) step (rngV_at hi) p)
    (fun H p => hd H p.2 (by have e := p.1; rw [List.take_of_length_le (by rw [rngV_len]; exact Nat.le_refl _)] at e; exact e))
end
theorem cut_map {α : Type} (c : α → V) (ns : List α) (lo hi : Option Int) : cutV (ns.map c) lo hi = (((ns.drop (HT.sIx ns.length 0 lo)).take (HT.sIx ns.length ns.length hi - HT.sIx ns.length 0 lo)).map c) := by
  unfold cutV
  rw [List.length_map, ← List.map_drop, ← List.map_take]
theorem fm_some {α β : Type} (f : α → β) (xs : List α) : xs.filterMap (fun x => some (f x)) = xs.map f := congrFun List.filterMap_eq_map' xs
end Z
/-! ### the first that stands twice; dicts' keys -/
namespace Z
open PySem PySem.Spec PyProof.Rows L2
section
variable {κ : Type} [DecidableEq κ]
/-- the first item that stands among those ahead of it (seen: what was ahead already) -/
def ftw : List κ → List κ → Option κ
  | _, [] => none
  | seen, x :: r => if x ∈ seen then some x else ftw (seen ++ [x]) r
theorem ftw_step {ns : List κ} {i : Nat} {x : κ} (h : ns[i]? = some x) : ftw (ns.take i) (ns.drop i) = if x ∈ ns.take i then some x else ftw (ns.take (i + 1)) (ns.drop (i + 1)) := by
  have hlt : i < ns.length := (List.getElem?_eq_some_iff.mp h).1
  have e : ns[i] = x := (List.getElem?_eq_some_iff.mp h).2
  rw [List.drop_eq_getElem_cons hlt, e]
  have tk : ns.take (i + 1) = ns.take i ++ [x] := by rw [List.take_succ, h]; rfl
  rw [tk]
  rfl
theorem valV_iff {kvs : List (κ × V)} {k : κ} : (valV kvs k).isSome = true ↔ k ∈ kvs.map (·.1) := by
  unfold valV
  rw [Option.isSome_map, List.find?_isSome]
  constructor
  · rintro ⟨p, hp, e⟩
    exact List.mem_map.mpr ⟨p, hp, of_decide_eq_true e⟩
  · intro h
    obtain ⟨p, hp, e⟩ := List.mem_map.mp h
    exact ⟨p, hp, decide_eq_true e⟩
theorem valV_not {kvs : List (κ × V)} {k : κ} (h : (valV kvs k).isSome = false) : k ∉ kvs.map (·.1) := fun z => by
  rw [valV_iff.mpr z] at h
  cases h
theorem putK_new {kvs : List (κ × V)} {k : κ} {v : V} (h : k ∉ kvs.map (·.1)) : putK kvs k v = kvs ++ [(k, v)] := by
  unfold putK
  rw [if_neg]
  intro q
  obtain ⟨p, hp, e⟩ := List.any_eq_true.mp q
  exact h (List.mem_map.mpr ⟨p, hp, of_decide_eq_true e⟩)
end
end Z
namespace Z
open PySem PySem.Spec PyProof.Rows L2
/-- an expression that is never reached -/
theorem peNever {X : Cx} {e : Expr} : PE X e (fun _ _ _ => False) := ⟨fun _ _ _ _ _ _ z => z.elim⟩
theorem kitLT {K : PySem.W.Frag} {t : Value} {b3 b4 : Bool} (k3 : PySem.W.kitOne K t (.type "list") = some b3) (k4 : PySem.W.kitOne K t (.type "tuple") = some b4) : PySem.W.kitAny K t [.type "list", .type "tuple"] = some (b3 || b4) := by
  cases b3 with
  | true => exact kitAny_cons k3 (fun z => nomatch z) (fun _ => rfl)
  | false =>
    cases b4 with
    | true => exact kitAny_cons k3 (fun _ => kitAny_cons k4 (fun z => nomatch z) (fun _ => rfl)) (fun z => nomatch z)
    | false => exact kitAny_cons k3 (fun _ => kitAny_cons k4 (fun _ => kitAny_nil) (fun z => nomatch z)) (fun z => nomatch z)
/-- isinstance(x, (list, tuple)), the pair of classes just made -/
theorem isiLT {K : PySem.W.Frag} {H : Hp} {x : V} {b3 b4 : Bool} {p : Addr} {Q : VK} (kn : KnV K H x b3 b4) (hp : H p = none) (h : Q (.bl (b3 || b4)) (upd H p (.tup [.ty "list", .ty "tuple"]))) :
    rIsiT K [x, .ref p] (upd H p (.tup [.ty "list", .ty "tuple"])) Q := by
  obtain ⟨t, b1, b2, ty, k1, k2, k3, k4, e⟩ := kn
  exact ⟨x, p, _, t, _, _, rfl, upd_same, .cons (.ty _) (.cons (.ty _) .nil), ty_same ty (same_new hp), kitLT k3 k4, h⟩
theorem two_sz : 2 ≤ sizeLine := by decide
end Z
/-! ### further operators -/
namespace Z
open PySem PySem.Spec PyProof.Rows L2
def rInTD (K : PySem.W.Frag) : R2 := fun x y H Q => ∃ d ds, Dp K H x d ∧ Dp K H y (.tuple ds) ∧ SeqAt.shaped d = true ∧ SeqAt.shaped (.tuple ds) = true ∧ Q (.bl (ds.any fun z => PyData.eqv z d)) H
section
variable {X : Cx}
theorem op_inTD (hu : X.A.units + 65 < cLine) : OpR X (compareOp .In) (rInTD X.K) := by
  intro pins s σ H x y v u Q I rx ry h
  obtain ⟨d, ds, hx, hy, sx, sy, q⟩ := h
  obtain ⟨as, r1⟩ := Dp.reads I _ _ _ hx rx
  obtain ⟨bs, r2⟩ := Dp.reads I _ _ _ hy ry
  refine SeqAt.in_tuple_reads r2 r1 ?_ ?_ ?_ ⟨.bl _, H, I, rfl, q⟩
  · exact SeqAt.canLay_of_shaped sy
  · exact SeqAt.canLay_of_shaped sx
  · have a := SeqAt.depth_of_shaped sx
    have b : min (PyData.depthAll ds) d.depth ≤ d.depth := Nat.min_le_right _ _
    omega
/-- an int, a bool is not a bool (by identity) -/
def rNotIB : R2 := fun x y H Q => (∃ a b, x = .bl a ∧ y = .bl b ∧ Q (.bl (!decide (a = b))) H) ∨ (∃ i b, x = .int i ∧ y = .bl b ∧ Q (.bl true) H)
theorem op_notIB : OpR X (compareOp .IsNot) rNotIB := by
  intro pins s σ H x y v u Q I rx ry h
  rcases h with h | h
  · exact op_notBl pins s σ H x y v u Q I rx ry h
  · obtain ⟨i, b, rfl, rfl, q⟩ := h
    obtain ⟨t, rfl⟩ := rx
    cases ry
    exact wpAny_isNot_other rfl (by intro z; cases z) ⟨.bl true, H, I, rfl, q⟩
end
end Z
namespace Z
open PySem PySem.Spec PyProof.Rows L2
theorem room65 {k : Nat} {A : Around} (hr : Room k A) : A.units + 65 < cLine := by
  have := hr.un; omega
end Z
namespace Z
open PySem PySem.Spec PyProof.Rows L2
theorem inV_ints (n : Int) : ∀ l : List Int, inV (.int n) (l.map V.int) = decide (n ∈ l)
  | [] => by simp [inV]
  | m :: r => by
    have ih := inV_ints n r
    unfold inV at ih ⊢
    rw [List.map_cons, List.any_cons, ih]
    show ((m == n) || decide (n ∈ r)) = decide (n ∈ m :: r)
    by_cases h : m = n
    · rw [h]; simp
    · have h' : n ≠ m := fun z => h z.symm
      simp [h, h']
theorem flat_ints (l : List Int) : (l.map V.int).all flatV = true := by
  rw [List.all_map]
  exact List.all_eq_true.mpr fun _ _ => rfl
theorem cut_to {α : Type} (c : α → V) (ns : List α) (i : Nat) : cutV (ns.map c) none (some (i : Int)) = (ns.take i).map c := by
  rw [cut_map, HT.sIx_none, HT.sIx_nat, List.drop_zero, Nat.sub_zero]
  congr 1
  by_cases h : i ≤ ns.length
  · rw [Nat.min_eq_left h]
  · rw [Nat.min_eq_right (by omega), List.take_of_length_le (Nat.le_refl _), List.take_of_length_le (by omega)]
section
variable {κ : Type} [DecidableEq κ]
/-- the places whose item stands ahead of them -/
def dueI (ns : List κ) (i : Nat) : List Nat := (List.range i).filter fun j => match ns[j]? with
  | some x => decide (x ∈ ns.take j)
  | none => false
theorem dueI_yes {ns : List κ} {i : Nat} {x : κ} (h : ns[i]? = some x) (hx : x ∈ ns.take i) : dueI ns (i + 1) = dueI ns i ++ [i] := by
  unfold dueI
  rw [List.range_succ, List.filter_append]
  simp [h, hx]
theorem dueI_no {ns : List κ} {i : Nat} {x : κ} (h : ns[i]? = some x) (hx : x ∉ ns.take i) : dueI ns (i + 1) = dueI ns i := by
  unfold dueI
  rw [List.range_succ, List.filter_append]
  simp [h, hx]
theorem ftw_due (ns : List κ) : ∀ i, i ≤ ns.length → ftw [] ns = match (dueI ns i).head? with
    | some j => ns[j]?
    | none => ftw (ns.take i) (ns.drop i)
  | 0, _ => rfl
  | i + 1, hi => by
    have ih := ftw_due ns i (by omega)
    obtain ⟨x, hx⟩ : ∃ x, ns[i]? = some x := ⟨_, List.getElem?_eq_getElem (show i < ns.length by omega)⟩
    rw [ftw_step hx] at ih
    by_cases hm : x ∈ ns.take i
    · rw [dueI_yes hx hm]
      rw [if_pos hm] at ih
      cases e : dueI ns i with
      | nil =>
        rw [e] at ih
        show ftw [] ns = ns[i]?
        rw [hx]; exact ih
      | cons j r => rw [e] at ih; exact ih
    · rw [dueI_no hx hm]
      rw [if_neg hm] at ih
      exact ih
theorem ftw_all (ns : List κ) : ftw [] ns = match (dueI ns ns.length).head? with
    | some j => ns[j]?
    | none => none := by
  have h := ftw_due ns ns.length (Nat.le_refl _)
  rw [List.drop_length] at h
  exact h
theorem dueI_mem {ns : List κ} {i j : Nat} (h : j ∈ dueI ns i) : j < i := List.mem_range.mp (List.mem_filter.mp h).1
end
theorem ftw_map {α β : Type} [DecidableEq α] [DecidableEq β] (f : α → β) (hf : ∀ a b, f a = f b → a = b) : ∀ (r seen : List α), ftw (seen.map f) (r.map f) = (ftw seen r).map f
  | [], _ => rfl
  | x :: r, seen => by
    show (if f x ∈ seen.map f then some (f x) else ftw (seen.map f ++ [f x]) (r.map f)) = (if x ∈ seen then some x else ftw (seen ++ [x]) r).map f
    have hm : f x ∈ seen.map f ↔ x ∈ seen := by
      constructor
      · intro z
        obtain ⟨y, hy, e⟩ := List.mem_map.mp z
        rw [← hf _ _ e]; exact hy
      · intro z; exact List.mem_map.mpr ⟨x, z, rfl⟩
    by_cases h : x ∈ seen
    · rw [if_pos h, if_pos (hm.mpr h)]; rfl
    · rw [if_neg h, if_neg (fun z => h (hm.mp z))]
      have ih := ftw_map f hf r (seen ++ [x])
      rw [List.map_append] at ih
      exact ih
theorem eqv_nil_ints (ns : List Int) : PyData.eqv (.list (ns.map PyData.int)) (.list []) = ns.isEmpty := by
  cases ns <;> rfl
/-- a list of ints, an empty list: unlike just if there is one -/
theorem dec_bb (b : Bool) : decide (V.bl b = V.bl b) = true := decide_eq_true rfl
end Z
namespace Z
open PySem PySem.Spec PyProof.Rows L2
/-- (a, b) = .., (a, b, c) = .. by names -/
theorem pgt2 {X : Cx} {x y : Str} {px py pos : Pos} {kt : Nat} (i j : Nat) (hc : X.calm = true) (hN : X.N.Nodup) (hi : X.N[i]? = some x := by rfl) (hj : X.N[j]? = some y := by rfl) (hx : Loc X.env.scope x := by first | exact Or.inl rfl | exact Or.inr rfl) (fx : X.fn x = true ∨ X.env.scope.names.lookup x = some .local := by first | exact .inl rfl | exact .inr rfl | assumption) (hy : Loc X.env.scope y := by first | exact Or.inl rfl | exact Or.inr rfl) (fy : X.fn y = true ∨ X.env.scope.names.lookup y = some .local := by first | exact .inl rfl | exact .inr rfl | assumption) :
    PG X (.Tuple [.Name x px, .Name y py] kt pos) (gTup X.K 2 (gCons (gName i) (gCons (gName j) gNil))) := pg_tup hc (pgs_cons (pg_name hN hi hx fx) (pgs_cons (pg_name hN hj hy fy) pgs_nil))
theorem pgt3 {X : Cx} {x y z : Str} {px py pz pos : Pos} {kt : Nat} (i j l : Nat) (hc : X.calm = true) (hN : X.N.Nodup) (hi : X.N[i]? = some x := by rfl) (hj : X.N[j]? = some y := by rfl) (hl : X.N[l]? = some z := by rfl) (hx : Loc X.env.scope x := by first | exact Or.inl rfl | exact Or.inr rfl) (fx : X.fn x = true ∨ X.env.scope.names.lookup x = some .local := by first | exact .inl rfl | exact .inr rfl | assumption) (hy : Loc X.env.scope y := by first | exact Or.inl rfl | exact Or.inr rfl) (fy : X.fn y = true ∨ X.env.scope.names.lookup y = some .local := by first | exact .inl rfl | exact .inr rfl | assumption) (hz : Loc X.env.scope z := by first | exact Or.inl rfl | exact Or.inr rfl) (fz : X.fn z = true ∨ X.env.scope.names.lookup z = some .local := by first | exact .inl rfl | exact .inr rfl | assumption) :
    PG X (.Tuple [.Name x px, .Name y py, .Name z pz] kt pos) (gTup X.K 3 (gCons (gName i) (gCons (gName j) (gCons (gName l) gNil)))) := pg_tup hc (pgs_cons (pg_name hN hi hx fx) (pgs_cons (pg_name hN hj hy fy) (pgs_cons (pg_name hN hl hz fz) pgs_nil)))
end Z
/-! ### the rules with their fragment named: for use inside a comprehension -/
namespace Z
open PySem PySem.Spec PyProof.Rows L2
def rLenS (K : PySem.W.Frag) : List V → Hp → VK → Prop := fun xs H Q => ∃ p ys, xs = [.ref p] ∧ (SqL K H p ys ∨ SqT K H p ys) ∧ Q (.int ys.length) H
def rTupOf (K : PySem.W.Frag) : List V → Hp → VK → Prop := fun xs H Q => ∃ p ys, xs = [.ref p] ∧ ((SqL K H p ys ∧ ∀ l, H l = none → Q (.ref l) (upd H l (.tup ys))) ∨ (SqT K H p ys ∧ Q (.ref p) H))
def rLstOf (K : PySem.W.Frag) : List V → Hp → VK → Prop := fun xs H Q => ∃ p ys, xs = [.ref p] ∧ (SqL K H p ys ∨ SqT K H p ys) ∧ ∀ l, H l = none → Q (.ref l) (upd H l (.lst ys))
section
variable {X : Cx} {tg : Expr}
theorem kix_list (K : PySem.W.Frag) (hK : X.K = K := by rfl) : IxR X (rIxL K) := hK ▸ ix_list
theorem kix_tup (K : PySem.W.Frag) (hK : X.K = K := by rfl) : IxR X (rIxT K) := hK ▸ ix_tup
theorem kix_seq (K : PySem.W.Frag) (hK : X.K = K := by rfl) : IxR X (rIx K) := hK ▸ ix_seq
theorem ksl_list (K : PySem.W.Frag) (hK : X.K = K := by rfl) : SlR X (rSlL K) := hK ▸ sl_list
theorem ksl_tup (K : PySem.W.Frag) (hK : X.K = K := by rfl) : SlR X (rSlT K) := hK ▸ sl_tup
theorem kop_in_seq (K : PySem.W.Frag) (hK : X.K = K := by rfl) : OpR X (compareOp .In) (rIn K false) := hK ▸ op_in_seq
theorem kop_notIn_seq (K : PySem.W.Frag) (hK : X.K = K := by rfl) : OpR X (compareOp .NotIn) (rIn K true) := hK ▸ op_notIn_seq
theorem kcall_len_seq (K : PySem.W.Frag) (hK : X.K = K := by rfl) : CallR X (.builtin "len") (rLenS K) := hK ▸ call_len_seq
theorem kcall_tuple_of (K : PySem.W.Frag) (hK : X.K = K := by rfl) : CallR X (.type "tuple") (rTupOf K) := hK ▸ call_tuple_of
theorem kcall_list_of (K : PySem.W.Frag) (hK : X.K = K := by rfl) : CallR X (.type "list") (rLstOf K) := hK ▸ call_list_of
theorem kcr_sum (K : PySem.W.Frag) (hc : X.calm = true) (hK : X.K = K := by rfl) : CallR X (.builtin "sum") (rSum K) := hK ▸ cr_sum hc
theorem kcr_max (K : PySem.W.Frag) (hc : X.calm = true) (hK : X.K = K := by rfl) : CallR X (.builtin "max") (rMax K) := hK ▸ cr_max hc
theorem kcr_min (K : PySem.W.Frag) (hc : X.calm = true) (hK : X.K = K := by rfl) : CallR X (.builtin "min") (rMin K) := hK ▸ cr_min hc
theorem kcr_all (K : PySem.W.Frag) (hc : X.calm = true) (hK : X.K = K := by rfl) : CallR X (.builtin "all") (rAll K) := hK ▸ cr_all hc
theorem kcr_any (K : PySem.W.Frag) (hc : X.calm = true) (hK : X.K = K := by rfl) : CallR X (.builtin "any") (rAny K) := hK ▸ cr_any hc
theorem kcr_sorted (K : PySem.W.Frag) (hK : X.K = K := by rfl) : CallR X (.builtin "sorted") (rSorted K) := hK ▸ cr_sorted
theorem kcall_isi (K : PySem.W.Frag) (hK : X.K = K := by rfl) : CallR X (.builtin "isinstance") (rIsi K) := hK ▸ call_isi
theorem kcall_isiT (K : PySem.W.Frag) (hK : X.K = K := by rfl) : CallR X (.builtin "isinstance") (rIsiT K) := hK ▸ call_isiT
theorem kop_eqD (K : PySem.W.Frag) (hu : X.A.units + 64 < cLine) (hK : X.K = K := by rfl) : OpR X (compareOp .Eq) (rEqD K) := hK ▸ op_eqD hu
theorem kop_neD (K : PySem.W.Frag) (hu : X.A.units + 64 < cLine) (hK : X.K = K := by rfl) : OpR X (compareOp .NotEq) (rNeD K) := hK ▸ op_neD hu
theorem kop_inTD (K : PySem.W.Frag) (hu : X.A.units + 65 < cLine) (hK : X.K = K := by rfl) : OpR X (compareOp .In) (rInTD K) := hK ▸ op_inTD hu
theorem kpi_list {l : Expr} {tl : TE} (K : PySem.W.Frag) (hl : PE X l tl) (hK : X.K = K := by rfl) : PI X tg l (iList K tl) := hK ▸ pi_list hl
theorem kpi_tup {l : Expr} {tl : TE} (K : PySem.W.Frag) (hl : PE X l tl) (hK : X.K = K := by rfl) : PI X tg l (iTup K tl) := hK ▸ pi_tup hl
theorem kpg_tup {es : List Expr} {k : Nat} {pos : Pos} {t : TGs} {n : Nat} (K : PySem.W.Frag) (hc : X.calm = true) (h : PGs X es t) (hK : X.K = K := by rfl)
    (hn : (assignEach es X.env).length = n := by rfl) (hst : (assignEach es X.env).findIdx? (·.1) = none := by rfl) : PG X (.Tuple es k pos) (gTup K n t) := hK ▸ pg_tup hc h hn hst
end
section
theorem kpgt2 {X : Cx} {x y : Str} {px py pos : Pos} {kt : Nat} (i j : Nat) (K : PySem.W.Frag) (hc : X.calm = true) (hN : X.N.Nodup) (hi : X.N[i]? = some x := by rfl) (hj : X.N[j]? = some y := by rfl) (hx : Loc X.env.scope x := by first | exact Or.inl rfl | exact Or.inr rfl) (fx : X.fn x = true ∨ X.env.scope.names.lookup x = some .local := by first | exact .inl rfl | exact .inr rfl | assumption) (hy : Loc X.env.scope y := by first | exact Or.inl rfl | exact Or.inr rfl) (fy : X.fn y = true ∨ X.env.scope.names.lookup y = some .local := by first | exact .inl rfl | exact .inr rfl | assumption) (hK : X.K = K := by rfl) :
    PG X (.Tuple [.Name x px, .Name y py] kt pos) (gTup K 2 (gCons (gName i) (gCons (gName j) gNil))) := kpg_tup K hc (pgs_cons (pg_name hN hi hx fx) (pgs_cons (pg_name hN hj hy fy) pgs_nil)) hK
end
section
theorem kpgt3 {X : Cx} {x y z : Str} {px py pz pos : Pos} {kt : Nat} (i j l : Nat) (K : PySem.W.Frag) (hc : X.calm = true) (hN : X.N.Nodup) (hi : X.N[i]? = some x := by rfl) (hj : X.N[j]? = some y := by rfl) (hl : X.N[l]? = some z := by rfl) (hx : Loc X.env.scope x := by first | exact Or.inl rfl | exact Or.inr rfl) (fx : X.fn x = true ∨ X.env.scope.names.lookup x = some .local := by first | exact .inl rfl | exact .inr rfl | assumption) (hy : Loc X.env.scope y := by first | exact Or.inl rfl | exact Or.inr rfl) (fy : X.fn y = true ∨ X.env.scope.names.lookup y = some .local := by first | exact .inl rfl | exact .inr rfl | assumption) (hz : Loc X.env.scope z := by first | exact Or.inl rfl | exact Or.inr rfl) (fz : X.fn z = true ∨ X.env.scope.names.lookup z = some .local := by first | exact .inl rfl | exact .inr rfl | assumption) (hK : X.K = K := by rfl) :
    PG X (.Tuple [.Name x px, .Name y py, .Name z pz] kt pos) (gTup K 3 (gCons (gName i) (gCons (gName j) (gCons (gName l) gNil)))) := kpg_tup K hc (pgs_cons (pg_name hN hi hx fx) (pgs_cons (pg_name hN hj hy fy) (pgs_cons (pg_name hN hl hz fz) pgs_nil))) hK
end
end Z

/-! ### defs that are called where no display runs: repr of a tuple or list asks that -/
namespace Z
open PySem PySem.Spec PyProof.Rows L2
/-- as FnOk, but only where no guard stands around -/
structure FnG (P : Program) (w : World) (K : PySem.W.Frag) (mg : Str → Option Value) (base : Heap) (CX : CXT) (k : Nat) (f : Addr) (fd : FuncData) (ps : List Str) (sp : Sp) : Prop where
  len : ∀ vs H Q E, sp vs H Q E → vs.length = ps.length
  go : ∀ (A : Around) (outer : List Env) (s : Shared) (H : Hp) (args : Args) (us : List Value) (vs : List V) (Q : VK) (E : XK), A.guards = some [] → Room k A → Env0 P w K mg base A outer s H →
    BindsTo s fd args (ps.zip us) → Vals vs us → sp vs H Q E → codeAny (model P w) A (.call (.ref f) args) (CR CX outer P w H s Q E) s
section
variable {P : Program} {w : World} {K : PySem.W.Frag} {mg : Str → Option Value} {base : Heap} {x qual : Str} {params : Arguments} {body : List Stmt} {scope : Scope} {dvs : List V} {kws : List (Str × V)} {f : Addr} {fd : FuncData} {N ps : List Str} {k : Nat} {sp : Sp} {CX : CXT}
theorem okG (F : FunD K x qual params body scope dvs kws f fd) (S : FnScope N ps scope) (len : ∀ vs H Q E, sp vs H Q E → vs.length = ps.length)
    (hbody : ∀ (cdv : Value) (A : Around) (outer : List Env) (s : Shared) (H : Hp) (vs : List V) (Q : VK) (E : XK), A.guards = some [] → Room k (A.deeper (envOfC qual scope s.heap.objs.size f cdv)) → sp vs H Q E →
      ∃ t, PSs (cxOf CX P w K mg base N qual scope f cdv A outer s H E) body t ∧ t { nx := fun _ H' => Q .non H', rt := Q } (start N vs) H) : FnG P w K mg base CX (k + 1) f fd ps sp := by
  obtain ⟨oc, od, dV, kV, doc, pm, an, cdv, ct, osl, rfl, lk, hcd, _, _⟩ := F.ex
  refine ⟨len, fun A outer s H args us vs Q E hg hr e0 hb hv hsp => ?_⟩
  refine StX.run_bnd (G := fun vs' H' => vs' = vs ∧ H' = H) lk hcd S hr e0 (fun A' Ex Q' h => ?_) fun s2 H2 vs' ⟨e1, e2⟩ hr' => ?_
  · exact hb _ _ _ _ (h s H vs us e0 Un.refl rfl (fun _ _ z => z) hv (len _ _ _ _ hsp) ⟨rfl, rfl⟩)
  · subst e1 e2
    exact hbody cdv A outer s2 _ _ Q E hg hr' hsp
theorem ok0G (F : FunD K x qual params body scope dvs kws f fd) (S : FnScope N ps scope) (len : ∀ vs H Q E, sp vs H Q E → vs.length = ps.length)
    (hbody : ∀ (cdv : Value) (A : Around) (outer : List Env) (s : Shared) (H : Hp) (vs : List V) (Q : VK) (E : XK), A.guards = some [] → Room k (A.deeper (envOfC qual scope s.heap.objs.size f cdv)) → sp vs H Q E →
      ∃ t, PSs (cxOf CX0 P w K mg base N qual scope f cdv A outer s H E).nox body t ∧ t { nx := fun _ H' => Q .non H', rt := Q } (start N vs) H) : FnG P w K mg base CX0 (k + 1) f fd ps sp :=
  okG F S len fun cdv A outer s H vs Q E hg hr h => by
    obtain ⟨t, h, q⟩ := hbody cdv A outer s H vs Q E hg hr h
    exact ⟨t, h.nox, q⟩
end
section
variable {X : Cx} {CX : CXT} {j k : Nat} {f : Addr} {fd : FuncData} {ps : List Str} {sp : Sp} {E : XK} {x : Str} {p pos : Pos} {e : Expr} {es : List Expr} {t : TA}
theorem runG {pins : List (Addr × Obj)} {σ : L2.St} {H : Hp} {s : Shared} {Q : VK} {us : List Value} {vs : List V} (F : FnG X.prog X.w X.K X.mg X.base CX k f fd ps sp) (hg : X.A.guards = some []) (hr : Room k X.A) (hb : Binds X.K fd ps []) (hx : Passes CX X E)
    (I : Inv X pins σ H s) (r : Vals vs us) (h : sp vs H Q E) : wpAny (model X.prog X.w) X.A (call (.ref f) us) (EP X pins σ Q) X.xe s := by
  have hl : us.length = ps.length := by rw [← r.length]; exact F.len _ _ _ _ h
  have b := hb s us I.kIn (by rw [List.append_nil]; exact hl)
  rw [List.append_nil] at b
  refine wpAny_call (codeAny_mono (F.go X.A X.stack s H ⟨us, []⟩ us vs Q E hg hr I.env0 b r h) fun res s' hq => ?_)
  match res, hq with
  | .error e, hq => exact hx pins σ H s e s' I hq
  | .ok (.ret u), hq => exact I.after hq
theorem pcallG (F : FnG X.prog X.w X.K X.mg X.base CX k f fd ps sp) (hgd : X.A.guards = some []) (hr : Room j X.A) (hle : k ≤ j) (C : CallD X.K X.mg x f fd ps) (hx : Passes CX X E) (ha : PA X (e :: es) t) (hg : Gl X x := by rfl)
    (hdb : (x == ("__debug__" : Str)) = false := by decide) (he : starEach (e :: es) X.env = (false, eval e X.env) :: starEach es X.env := by rfl) (hpl : (backTo pos (starEach es X.env)).any (·.1) = false := by rfl) :
    PE X (.Call (.Name x p) (e :: es) [] pos) (tCall sp [] E t) := by
  refine ⟨fun pins s σ H Q I h => ?_⟩
  refine wpAny_Call_Name_kw (ld_glob I hg C.gl ?_ hdb)
  refine PySem.W.callWith_K (h₀ := X.base) I.ok.mod.kin C.kp ?_ he hpl
  refine thn (ha.run pos pins s σ H _ I h) fun us s1 ⟨vs, H1, I1, r, q⟩ => ⟨I1.kIn, ?_⟩
  have q' : sp (vs ++ []) H1 Q E := q
  rw [List.append_nil] at q'
  exact runG F hgd (hr.mono hle) C.b hx I1 r q'
/-- repr of a tuple, a list of data -/
def rReprD (K : PySem.W.Frag) : List V → Hp → VK → Prop := fun xs H Q => ∃ (a : Addr) (d : PyData), xs = [.ref a] ∧ Dp K H (.ref a) d ∧ d.showable = true ∧ d.hasDict = false ∧ d.depth ≤ 60 ∧ d.shown.length ≤ sizeLine ∧ Q (.str d.shown) H
theorem call_reprD (hg : X.A.guards = some []) (hu : X.A.units + 64 < cLine) : CallR X (.builtin "repr") (rReprD X.K) := by
  intro pins s σ H xs us Q I r h
  obtain ⟨a, d, rfl, hd, h1, h2, h3, h4, q⟩ := h
  obtain ⟨u, rfl, ru⟩ := vals1 r
  obtain ⟨as, rd⟩ := Dp.reads I _ _ _ hd ru
  obtain rfl : u = Value.ref a := ru
  refine repr_of_reads' rd h1 (PyData.noDict_hsm h2) hg (by omega) (fun _ _ e => e) (fun h' u tk hk => ?_) h4
  exact ⟨.str d.shown, H, I.kept (t' := tk) hk, ⟨u, rfl⟩, q⟩
end
section
variable {P : Program} {w : World} {K : PySem.W.Frag} {mg mb : Str → Option Value} {CX : CXT} {k : Nat} {fa a : Addr} {fd : FuncData} {x : Str} {sp : Sp} {s : Shared} {vs : List Value} {ns : List Int}
/-- the heap in which the script alone may be tracked -/
theorem scriptHeap (KX : K.In s.heap) (ha : s.heap.get? a = some { cls := .type "list", data := .seq vs.toArray }) (hi : IntsAre vs ns) (hl : ns.length ≤ sizeLine) :
    ∃ H : Hp, Only H ∧ SqL K H a (ns.map V.int) ∧ HOk P w H s.heap ∧ (∀ b, H b = none ∨ b = a) ∧ (∀ b o, K.lookup b = some o → H b = none) := by
  have rv := vals_ints hi
  have lz : (ns.map V.int).length ≤ sizeLine := by rw [List.length_map]; exact hl
  by_cases hk : ∃ o, K.lookup a = some o
  · obtain ⟨o, hk⟩ := hk
    obtain rfl : { cls := .type "list", data := .seq vs.toArray } = o := Option.some.inj (ha.symm.trans (KX a o hk))
    refine ⟨fun _ => none, fun _ => .inl rfl, .inr ⟨_, _, _, hk, rfl, rfl, rfl, ?_, rv⟩, fun b u z => (nomatch z), fun _ => .inl rfl, fun _ _ _ => rfl⟩
    show vs.toArray.size ≤ sizeLine
    rw [List.size_toArray, ← rv.length]; exact lz
  · refine ⟨fun b => if b = a then some (.frz { cls := .type "list", data := .seq vs.toArray } (.lst (ns.map V.int))) else none, fun b => ?_, .inl (.inr ⟨_, if_pos rfl⟩), fun b u z => ?_, fun b => ?_, fun b o e => if_neg (fun (z : b = a) => hk ⟨o, by rw [← z]; exact e⟩)⟩
    · by_cases z : b = a
      · exact .inr ⟨_, _, if_pos z⟩
      · exact .inl (if_neg z)
    · have q : (if b = a then some (HO.frz { cls := .type "list", data := .seq vs.toArray } (.lst (ns.map V.int))) else none) = some u := z
      by_cases e : b = a
      · rw [if_pos e] at q
        rw [← Option.some.inj q, e]
        exact ⟨ha, lz, vs, _, rv, ha⟩
      · rw [if_neg e] at q; cases q
    · by_cases z : b = a
      · exact .inr z
      · exact .inl (if_neg z)
theorem law_callG (KX : K.In s.heap) (hns : s.heap.Ns mainGlobals mg) (hb : s.heap.Ns builtinsNs mb) (hbb : ∀ y : Str, y ≠ "__name__" → mb y = bootBuiltins y) (hlim : s.heap.NoLimit) (hg : s.gens = #[])
    (ha : s.heap.get? a = some { cls := .type "list", data := .seq vs.toArray }) (hi : IntsAre vs ns) (hl : ns.length ≤ sizeLine) (hr : Room k callerA)
    (F : ∀ base : Heap, K.In base → base.Ns mainGlobals mg → FnG P w K mg base CX k fa fd [x] sp) (hbind : ∀ (s : Shared) (u : Value), BindsTo s fd ⟨[u], []⟩ [(x, u)])
    (hsp : ∀ H : Hp, Only H → SqL K H a (ns.map V.int) → sp [.ref a] H (fun v _ => v = .bl true) fun _ _ _ => False) (hCX : ∀ H e s', CX [] H s (fun _ _ _ => False) e s' → False) :
    codeAny (model P w) callerA (.call (.ref fa) ⟨[.ref a], []⟩) (fun r s' => r = .ok (.ret (.bool true)) ∧ OldK s.heap s'.heap ∧ s'.os = s.os ∧ AllBare s'.gens) s := by
  obtain ⟨H, hO, hS, hok, hA, hK⟩ := scriptHeap (P := P) (w := w) KX ha hi hl
  have keepN : ∀ {L : Addr} {m : Str → Option Value}, s.heap.Ns L m → (hidT s.heap H).Ns L m := by
    rintro L m ⟨o, es, ep, e, d, r⟩
    refine ⟨o, es, ep, hidT_get e ?_, d, r⟩
    rcases hA L with z | z
    · exact z
    · exfalso
      rw [z, ha] at e
      rw [← Option.some.inj e] at d
      cases d
  have kB : K.In (hidT s.heap H) := fun b o e => hidT_get (KX b o e) (hK b o e)
  have M : Mod K mg (hidT s.heap H) := ⟨kB, keepN hns, ⟨mb, keepN hb, hbb⟩, hlim.elim fun mc q => ⟨mc, q.imp keepN id⟩⟩
  have e0 : Env0 P w K mg (hidT s.heap H) callerA [] s H :=
    { frames := rfl, mod := M, bs := fun _ _ e => of_hidT e, bsz := Nat.le_of_eq (hidT_size _ _), funs := trivial, frf := fun b hb => (nomatch (show b ∈ ([] : List Addr) from hb)), hok := hok, bare := .of_eq hg }
  have run := (F _ kB (keepN hns)).go callerA [] s H ⟨[.ref a], []⟩ [.ref a] [.ref a] _ _ rfl hr e0 (hbind s (.ref a)) (.cons rfl .nil) (hsp H hO hS)
  refine codeAny_mono run fun r s' h => ?_
  match r, h with
  | .error e, h => exact (hCX H e s' h).elim
  | .ok (.ret u), h =>
    obtain ⟨v, H', os, bare, un, hok', rv, q⟩ := h
    subst q
    obtain rfl : u = Value.bool true := rv
    refine ⟨rfl, OldK.of_keep fun b o e => ?_, os, bare⟩
    rcases hO b with z | ⟨ob, ys, z⟩
    · exact un.keep b o e z (fun y => (nomatch (show b ∈ ([] : List Addr) from y))) (fun y => (nomatch y))
    · have e1 := (hok b _ z).1
      have e2 := (hok' b _ (un.frzs b ob _ z)).1
      rw [e] at e1
      rw [Option.some.inj e1]; exact e2
end
theorem walk_ofG {l : PySem.W.OpenLaw} {n k : Nat} {q : Program} {loose : List Str} {XP : (Str → Option Value) → Heap → Prop} {YP : World → Heap → Prop} {d : DefRec} {CX : CXT} {x : Str}
    (hn : l.most = some n) (hn2 : n ≤ sizeLine) (hdf : d.params.defaults = []) (hr : Room k callerA)
    (F : ∀ (w : World) (mg : Str → Option Value) (fa : Addr) (h : Heap), YP w h → h.Ns mainGlobals mg → mg d.name = some (.ref fa) →
      ∃ (K : PySem.W.Frag) (fd : FuncData) (sp : Sp), K.In h ∧ (∀ (s : Shared) (u : Value), BindsTo s fd ⟨[u], []⟩ [(x, u)]) ∧ (∀ (H : Hp) (a : Addr) (ns : List Int), ns.length ≤ n → Only H → SqL K H a (ns.map V.int) → sp [.ref a] H (fun v _ => v = .bl true) fun _ _ _ => False) ∧
        ∀ base : Heap, K.In base → base.Ns mainGlobals mg → FnG l.prog w K mg base CX k fa fd [x] sp)
    (hCX : ∀ (H : Hp) (s : Shared) (e : Value) (s' : Shared), CX [] H s (fun _ _ _ => False) e s' → False) : PySem.W.WalkO q loose XP YP l.row.toRowW d [] (fun f vs => PySem.call f vs) := by
  refine Att.attach_call hn hdf fun w s₀ s mg mb fa o pm cd doc a vs ns G Y ho hd hcd hmg hobj hints hlen hg => ?_
  obtain ⟨K, fd, sp, KX, hb, hsp, hF⟩ := F w mg fa _ Y G.T.g hmg
  exact law_callG KX G.T.g G.T.b G.T.builtins G.T.nolimit hg hobj hints (Nat.le_trans hlen hn2) hr hF hb (fun H hO hS => hsp H a ns hlen hO hS) fun H e s' => hCX H s e s'
end Z

namespace My
open PySem PySem.Spec PyProof.Rows L2 Z
/-! ### the draws: a list of three (cells, how many were begun, what is left) -/
section
open Z
/-- the drawing list stands at a, at most n cells were begun -/
def WellAt (H : Hp) (a c : Addr) (n : Nat) : Prop := ∃ (cells : List Int) (t l : Int), H a = some (.lst [.ref c, .int t, .int l]) ∧ H c = some (.lst (cells.map V.int)) ∧ cells.length ≤ 63 ∧ 0 ≤ t ∧ t ≤ n ∧ c ≠ a
/-- another list of ours changes -/
theorem WellAt.other {H : Hp} {a c b : Addr} {n : Nat} {o : HO} (h : WellAt H a c n) (na : b ≠ a) (nc : b ≠ c) : WellAt (upd H b o) a c n := by
  obtain ⟨cells, t, l, h1, h2, h3⟩ := h
  exact ⟨cells, t, l, by rw [upd_ne na.symm]; exact h1, by rw [upd_ne nc.symm]; exact h2, h3⟩
theorem WellAt.mono {H : Hp} {a c : Addr} {n m : Nat} (h : WellAt H a c n) (k : n ≤ m) : WellAt H a c m := by
  obtain ⟨cells, t, l, h1, h2, h3, h4, h5, h6⟩ := h
  exact ⟨cells, t, l, h1, h2, h3, h4, by omega, h6⟩
theorem WellAt.kp {H H' : Hp} {a c : Addr} {n : Nat} (h : WellAt H a c n) (k : Same H H') : WellAt H' a c n := by
  obtain ⟨cells, t, l, h1, h2, h3, h4, h5, h6⟩ := h
  exact ⟨cells, t, l, k _ _ h1, k _ _ h2, h3, h4, h5, h6⟩
def PailSt (H : Hp) (a c : Addr) (many t l : Int) (cells : List Int) (cell : Int) (σ' : L2.St) (H' : Hp) : Prop :=
  σ' = [some (.ref a), some (.int many), none, some (.int t), some (.int cell), none] ∧ H' a = some (.lst [.ref c, .int (t + 1), .int l]) ∧ H' c = some (.lst (cells.map V.int)) ∧ Kp a H H'
def sp_pail : Sp := fun vs H Q _ => ∃ (a c : Addr) (many : Int) (n : Nat), vs = [.ref a, .int many] ∧ WellAt H a c n ∧ n < 1000000 ∧ 0 < many ∧ many < 1073741824 ∧
  ∀ (r : Int) (H' : Hp), 0 ≤ r → r < many → Kp a H H' → WellAt H' a c (n + 1) → Q (.int r) H'
theorem mod_room {x m : Int} (h : 0 < m) (h2 : m < 2 ^ 63) : -(2 ^ 64) < x % m ∧ x % m < 2 ^ 64 := by
  have a := Int.emod_nonneg x (show m ≠ 0 by omega)
  have b := Int.emod_lt_of_pos x h
  omega
theorem pow_room2 {m t a b c : Int} (hm : 0 ≤ m ∧ m < 2147483648) (ht : 0 ≤ t ∧ t ≤ 1000000) (ha : 0 ≤ a ∧ a ≤ 100000) (hb : 0 ≤ b ∧ b ≤ 100000) (hc : 0 ≤ c ∧ c ≤ 100000) : (m * (2 * t + a) + b * t * t + c).natAbs < 2 ^ 64 := by
  have h1 : 0 ≤ m * (2 * t + a) := Int.mul_nonneg hm.1 (by omega)
  have h2 : m * (2 * t + a) ≤ 2147483648 * 2100000 := Int.mul_le_mul (by omega) (by omega) (by omega) (by omega)
  have h3 : 0 ≤ b * t := Int.mul_nonneg hb.1 ht.1
  have h4 : b * t ≤ 100000 * 1000000 := Int.mul_le_mul hb.2 ht.2 ht.1 (by omega)
  have h5 : 0 ≤ b * t * t := Int.mul_nonneg h3 ht.1
  have h6 : b * t * t ≤ 100000 * 1000000 * 1000000 := Int.mul_le_mul h4 ht.2 ht.1 (by omega)
  omega
theorem dpAll_ints {K : PySem.W.Frag} {H : Hp} : ∀ ns : List Int, DpAll K H (ns.map V.int) (ns.map PyData.int)
  | [] => .nil
  | n :: r => .cons (.int n) (dpAll_ints r)
end

def top (i : Nat) : Stmt := PySem.Challenge.pw_allnear_k01_checks_of_any_value.main.body.getD i (.Pass ⟨0, 0, 0, 0⟩)
abbrev s_is_integer : Stmt := top 2
theorem sc_is_integer : FnScope ["value"] ["value"] (defScope s_is_integer) := ⟨rfl, rfl, rfl, by decide +kernel, rfl, by decide +kernel, by decide +kernel⟩
abbrev s_is_within : Stmt := top 3
theorem sc_is_within : FnScope ["value", "least", "most"] ["value", "least", "most"] (defScope s_is_within) := ⟨rfl, rfl, rfl, by decide +kernel, rfl, by decide +kernel, by decide +kernel⟩
abbrev s_is_numbers : Stmt := top 4
theorem sc_is_numbers : FnScope ["value", "part"] ["value"] (defScope s_is_numbers) := ⟨rfl, rfl, rfl, by decide +kernel, rfl, by decide +kernel, by decide +kernel⟩
abbrev s_is_prime : Stmt := top 5
theorem sc_is_prime : FnScope ["value"] ["value"] (defScope s_is_prime) := ⟨rfl, rfl, rfl, by decide +kernel, rfl, by decide +kernel, by decide +kernel⟩
abbrev s_is_sign : Stmt := top 6
theorem sc_is_sign : FnScope ["p", "value"] ["p", "value"] (defScope s_is_sign) := ⟨rfl, rfl, rfl, by decide +kernel, rfl, by decide +kernel, by decide +kernel⟩
abbrev s_as_tuples : Stmt := top 7
theorem sc_as_tuples : FnScope ["value", "part"] ["value"] (defScope s_as_tuples) := ⟨rfl, rfl, rfl, by decide +kernel, rfl, by decide +kernel, by decide +kernel⟩
abbrev s_first_twice : Stmt := top 8
theorem sc_first_twice : FnScope ["values", "seen", "value"] ["values"] (defScope s_first_twice) := ⟨rfl, rfl, rfl, by decide +kernel, rfl, by decide +kernel, by decide +kernel⟩
abbrev s_law_well : Stmt := top 10
theorem sc_law_well : FnScope ["script", "cell"] ["script"] (defScope s_law_well) := ⟨rfl, rfl, rfl, by decide +kernel, rfl, by decide +kernel, by decide +kernel⟩
abbrev s_law_pail : Stmt := top 11
theorem sc_law_pail : FnScope ["well", "many", "rest", "turn", "cell", "mixed"] ["well", "many"] (defScope s_law_pail) := ⟨rfl, rfl, rfl, by decide +kernel, rfl, by decide +kernel, by decide +kernel⟩
abbrev s_law_of : Stmt := top 12
theorem sc_law_of : FnScope ["well", "some"] ["well", "some"] (defScope s_law_of) := ⟨rfl, rfl, rfl, by decide +kernel, rfl, by decide +kernel, by decide +kernel⟩
abbrev s_law_odd : Stmt := top 13
theorem sc_law_odd : FnScope ["well"] ["well"] (defScope s_law_odd) := ⟨rfl, rfl, rfl, by decide +kernel, rfl, by decide +kernel, by decide +kernel⟩
abbrev s_law_bounds_right : Stmt := top 14
theorem sc_law_bounds_right : FnScope ["well", "number", "odd", "low", "high", "told"] ["well"] (defScope s_law_bounds_right) := ⟨rfl, rfl, rfl, by decide +kernel, rfl, by decide +kernel, by decide +kernel⟩
abbrev s_law_rows_right : Stmt := top 15
theorem sc_law_rows_right : FnScope ["well", "odd", "row", "at", "turn"] ["well"] (defScope s_law_rows_right) := ⟨rfl, rfl, rfl, by decide +kernel, rfl, by decide +kernel, by decide +kernel⟩
abbrev s_law_primes : Stmt := top 16
theorem sc_law_primes : FnScope ["found", "number", "prime"] [] (defScope s_law_primes) := ⟨rfl, rfl, rfl, by decide +kernel, rfl, by decide +kernel, by decide +kernel⟩
abbrev s_law_signs_right : Stmt := top 17
theorem sc_law_signs_right : FnScope ["well", "odd", "number", "primes", "p", "told"] ["well"] (defScope s_law_signs_right) := ⟨rfl, rfl, rfl, by decide +kernel, rfl, by decide +kernel, by decide +kernel⟩
abbrev s_law_twice_right : Stmt := top 18
theorem sc_law_twice_right : FnScope ["well", "numbers", "pairs", "due", "turn", "number", "at"] ["well"] (defScope s_law_twice_right) := ⟨rfl, rfl, rfl, by decide +kernel, rfl, by decide +kernel, by decide +kernel⟩
abbrev s_law : Stmt := top 19
theorem sc_law : FnScope ["script", "well", "turn"] ["script"] (defScope s_law) := ⟨rfl, rfl, rfl, by decide +kernel, rfl, by decide +kernel, by decide +kernel⟩
/-- what the top leaves -/
structure Txt (K : PySem.W.Frag) (mg : Str → Option Value) : Prop where
  d_is_integer : FunD K "is_integer" "is_integer" (defArgs s_is_integer) (defBody s_is_integer) (defScope s_is_integer) [] [] (He.fAd K ("is_integer", none)) (fdOf K ("is_integer", none))
  d_is_within : FunD K "is_within" "is_within" (defArgs s_is_within) (defBody s_is_within) (defScope s_is_within) [] [] (He.fAd K ("is_within", none)) (fdOf K ("is_within", none))
  d_is_numbers : FunD K "is_numbers" "is_numbers" (defArgs s_is_numbers) (defBody s_is_numbers) (defScope s_is_numbers) [] [] (He.fAd K ("is_numbers", none)) (fdOf K ("is_numbers", none))
  d_is_prime : FunD K "is_prime" "is_prime" (defArgs s_is_prime) (defBody s_is_prime) (defScope s_is_prime) [] [] (He.fAd K ("is_prime", none)) (fdOf K ("is_prime", none))
  d_is_sign : FunD K "is_sign" "is_sign" (defArgs s_is_sign) (defBody s_is_sign) (defScope s_is_sign) [] [] (He.fAd K ("is_sign", none)) (fdOf K ("is_sign", none))
  d_as_tuples : FunD K "as_tuples" "as_tuples" (defArgs s_as_tuples) (defBody s_as_tuples) (defScope s_as_tuples) [] [] (He.fAd K ("as_tuples", none)) (fdOf K ("as_tuples", none))
  d_first_twice : FunD K "first_twice" "first_twice" (defArgs s_first_twice) (defBody s_first_twice) (defScope s_first_twice) [] [] (He.fAd K ("first_twice", none)) (fdOf K ("first_twice", none))
  d_law_well : FunD K "_law_well" "_law_well" (defArgs s_law_well) (defBody s_law_well) (defScope s_law_well) [] [] (He.fAd K ("_law_well", none)) (fdOf K ("_law_well", none))
  d_law_pail : FunD K "_law_pail" "_law_pail" (defArgs s_law_pail) (defBody s_law_pail) (defScope s_law_pail) [] [] (He.fAd K ("_law_pail", none)) (fdOf K ("_law_pail", none))
  d_law_of : FunD K "_law_of" "_law_of" (defArgs s_law_of) (defBody s_law_of) (defScope s_law_of) [] [] (He.fAd K ("_law_of", none)) (fdOf K ("_law_of", none))
  d_law_odd : FunD K "_law_odd" "_law_odd" (defArgs s_law_odd) (defBody s_law_odd) (defScope s_law_odd) [] [] (He.fAd K ("_law_odd", none)) (fdOf K ("_law_odd", none))
  d_law_bounds_right : FunD K "_law_bounds_right" "_law_bounds_right" (defArgs s_law_bounds_right) (defBody s_law_bounds_right) (defScope s_law_bounds_right) [] [] (He.fAd K ("_law_bounds_right", none)) (fdOf K ("_law_bounds_right", none))
  d_law_rows_right : FunD K "_law_rows_right" "_law_rows_right" (defArgs s_law_rows_right) (defBody s_law_rows_right) (defScope s_law_rows_right) [] [] (He.fAd K ("_law_rows_right", none)) (fdOf K ("_law_rows_right", none))
  d_law_primes : FunD K "_law_primes" "_law_primes" (defArgs s_law_primes) (defBody s_law_primes) (defScope s_law_primes) [] [] (He.fAd K ("_law_primes", none)) (fdOf K ("_law_primes", none))
  d_law_signs_right : FunD K "_law_signs_right" "_law_signs_right" (defArgs s_law_signs_right) (defBody s_law_signs_right) (defScope s_law_signs_right) [] [] (He.fAd K ("_law_signs_right", none)) (fdOf K ("_law_signs_right", none))
  d_law_twice_right : FunD K "_law_twice_right" "_law_twice_right" (defArgs s_law_twice_right) (defBody s_law_twice_right) (defScope s_law_twice_right) [] [] (He.fAd K ("_law_twice_right", none)) (fdOf K ("_law_twice_right", none))
  d_law : FunD K "law" "law" (defArgs s_law) (defBody s_law) (defScope s_law) [] [] (He.fAd K ("law", none)) (fdOf K ("law", none))
  c_is_integer : CallD K mg "is_integer" (He.fAd K ("is_integer", none)) (fdOf K ("is_integer", none)) ["value"]
  c_is_within : CallD K mg "is_within" (He.fAd K ("is_within", none)) (fdOf K ("is_within", none)) ["value", "least", "most"]
  c_is_numbers : CallD K mg "is_numbers" (He.fAd K ("is_numbers", none)) (fdOf K ("is_numbers", none)) ["value"]
  c_is_prime : CallD K mg "is_prime" (He.fAd K ("is_prime", none)) (fdOf K ("is_prime", none)) ["value"]
  c_is_sign : CallD K mg "is_sign" (He.fAd K ("is_sign", none)) (fdOf K ("is_sign", none)) ["p", "value"]
  c_as_tuples : CallD K mg "as_tuples" (He.fAd K ("as_tuples", none)) (fdOf K ("as_tuples", none)) ["value"]
  c_first_twice : CallD K mg "first_twice" (He.fAd K ("first_twice", none)) (fdOf K ("first_twice", none)) ["values"]
  c_law_well : CallD K mg "_law_well" (He.fAd K ("_law_well", none)) (fdOf K ("_law_well", none)) ["script"]
  c_law_pail : CallD K mg "_law_pail" (He.fAd K ("_law_pail", none)) (fdOf K ("_law_pail", none)) ["well", "many"]
  c_law_of : CallD K mg "_law_of" (He.fAd K ("_law_of", none)) (fdOf K ("_law_of", none)) ["well", "some"]
  c_law_odd : CallD K mg "_law_odd" (He.fAd K ("_law_odd", none)) (fdOf K ("_law_odd", none)) ["well"]
  c_law_bounds_right : CallD K mg "_law_bounds_right" (He.fAd K ("_law_bounds_right", none)) (fdOf K ("_law_bounds_right", none)) ["well"]
  c_law_rows_right : CallD K mg "_law_rows_right" (He.fAd K ("_law_rows_right", none)) (fdOf K ("_law_rows_right", none)) ["well"]
  c_law_primes : CallD K mg "_law_primes" (He.fAd K ("_law_primes", none)) (fdOf K ("_law_primes", none)) []
  c_law_signs_right : CallD K mg "_law_signs_right" (He.fAd K ("_law_signs_right", none)) (fdOf K ("_law_signs_right", none)) ["well"]
  c_law_twice_right : CallD K mg "_law_twice_right" (He.fAd K ("_law_twice_right", none)) (fdOf K ("_law_twice_right", none)) ["well"]
  c_law : CallD K mg "law" (He.fAd K ("law", none)) (fdOf K ("law", none)) ["script"]
  n_isinstance : mg "isinstance" = none
  n_int : mg "int" = none
  n_bool : mg "bool" = none
  n_all : mg "all" = none
  n_list : mg "list" = none
  n_tuple : mg "tuple" = none
  n_len : mg "len" = none
  n_abs : mg "abs" = none
  n_range : mg "range" = none
  n_repr : mg "repr" = none
  n_enumerate : mg "enumerate" = none
  g_PRIMES : mg "PRIMES" = some (.ref (He.ga K "PRIMES"))
  t_PRIMES : ∀ H : Hp, SqT K H (He.ga K "PRIMES") [V.int 2, V.int 3, V.int 5, V.int 7, V.int 11, V.int 13, V.int 17, V.int 19, V.int 23, V.int 29, V.int 31, V.int 37, V.int 41, V.int 43, V.int 47, V.int 53, V.int 59, V.int 61, V.int 67, V.int 71, V.int 73, V.int 79, V.int 83, V.int 89, V.int 97]
  k_is_within_1_least_most : KBn K (fdOf K ("is_within", none)) ["value", "least", "most"] 1 ["least", "most"] (fun us ws => us ++ prm [0, 1] ws) (fun vs zs => vs ++ prm [0, 1] zs)
  k_is_within_0_value_least_most : KBn K (fdOf K ("is_within", none)) ["value", "least", "most"] 0 ["value", "least", "most"] (fun us ws => us ++ prm [0, 1, 2] ws) (fun vs zs => vs ++ prm [0, 1, 2] zs)
  k_is_integer_0_value : KBn K (fdOf K ("is_integer", none)) ["value"] 0 ["value"] (fun us ws => us ++ prm [0] ws) (fun vs zs => vs ++ prm [0] zs)
  k_is_numbers_0_value : KBn K (fdOf K ("is_numbers", none)) ["value"] 0 ["value"] (fun us ws => us ++ prm [0] ws) (fun vs zs => vs ++ prm [0] zs)
  k_is_sign_0_p_value : KBn K (fdOf K ("is_sign", none)) ["p", "value"] 0 ["p", "value"] (fun us ws => us ++ prm [0, 1] ws) (fun vs zs => vs ++ prm [0, 1] zs)
  k_is_prime_0_value : KBn K (fdOf K ("is_prime", none)) ["value"] 0 ["value"] (fun us ws => us ++ prm [0] ws) (fun vs zs => vs ++ prm [0] zs)
  k_first_twice_0_values : KBn K (fdOf K ("first_twice", none)) ["values"] 0 ["values"] (fun us ws => us ++ prm [0] ws) (fun vs zs => vs ++ prm [0] zs)
section
variable {P : Program} {w : World} {K : PySem.W.Frag} {mg : Str → Option Value} {base : Heap}
theorem ok_law_pail (T : Txt K mg) : FnOk P w K mg base CX0 1 (He.fAd K ("_law_pail", none)) (fdOf K ("_law_pail", none)) ["well", "many"] sp_pail := by
  refine ok0 T.d_law_pail sc_law_pail (fun vs H Q E h => ?_) (fun cdv A outer s H vs Q E hr h => ?_)
  · obtain ⟨a, c, many, n, rfl, _⟩ := h
    rfl
  · obtain ⟨a, c, many, n, rfl, ⟨cells, t, l, hw, hc, hlen, ht0, htn, hcw⟩, hn, hm0, hm1, k⟩ := h
    have nd := sc_law_pail.nd
    refine ⟨_, (pss_cons (ps_if (pt_cmpR op_gt (pe_ix ix_list (pv 0) pe_int (fun _ _ => rfl)) pe_int (nomark _)) (pss_cons (ps_setN 2 nd (pe_callTy call_int1 rfl T.n_int (by decide +kernel) (pa_cons (pe_ix ix_list (pv 0) pe_int (fun _ _ => rfl)) pa_nil)))
    (pss_cons (ps_asg (pe_op op_fdiv (pv 2) (pv 1)) (pg_sub (pv 0) pe_int set_list))
    (pss_one (ps_ret (pe_op op_mod (pe_callTy call_int1 rfl T.n_int (by decide +kernel) (pa_cons (pv 2) pa_nil)) (pv 1)))))) pss_nil)
    (pss_cons (ps_setN 3 nd (pe_ix ix_list (pv 0) pe_int (fun _ _ => rfl)))
    (pss_cons (ps_asg (pe_op op_add (pv 3) pe_int) (pg_sub (pv 0) pe_int set_list))
    (pss_cons (ps_setN 4 nd (pe_op op_add (pe_op op_mul pe_int (pv 3)) pe_int))
    (Evl.pss_cut (ps_if (pt_cmpR (op_neD hr.units) (pe_ix ix_list (pv 0) pe_int (fun _ _ => rfl)) (pe_lst pa_nil) (nomark _)) (pss_one (ps_setN 4 nd (pe_ix ix_list (pe_ix ix_list (pv 0) pe_int (fun _ _ => rfl)) (pe_op op_mod (pe_callTy call_int1 rfl T.n_int (by decide +kernel) (pa_cons (pv 3) pa_nil)) (pe_callB call_len_seq rfl T.n_len (by decide +kernel) (pa_cons (pe_ix ix_list (pv 0) pe_int (fun _ _ => rfl)) pa_nil))) (fun _ _ => rfl)))) pss_nil)
    (Evl.pss_cut (ps_if (PW.pt (pw_and (pt_cmpR op_lt (pv 3) (pe_callB call_len_seq rfl T.n_len (by decide +kernel) (pa_cons (pe_ix ix_list (pv 0) pe_int (fun _ _ => rfl)) pa_nil)) (nomark _)) (pw_and1 (pt_cmpR op_ge (pe_callB call_abs rfl T.n_abs (by decide +kernel) (pa_cons (pv 4) pa_nil)) (pe_op op_pow pe_int pe_int) (nomark _))))) (pss_cons (ps_setN 2 nd (pe_op op_add (pe_op op_mul pe_int (pe_op op_sub (pe_callB call_abs rfl T.n_abs (by decide +kernel) (pa_cons (pv 4) pa_nil)) (pe_op op_pow pe_int pe_int))) (pe_callTy call_int1 rfl T.n_int (by decide +kernel) (pa_cons (pe_cmpR op_lt (pv 4) pe_int (nomark _)) pa_nil))))
    (pss_cons (ps_asg (pe_op op_fdiv (pv 2) (pv 1)) (pg_sub (pv 0) pe_int set_list))
    (pss_one (ps_ret (pe_op op_mod (pe_callTy call_int1 rfl T.n_int (by decide +kernel) (pa_cons (pv 2) pa_nil)) (pv 1)))))) pss_nil)
    (pss_cons (ps_setN 5 nd (pe_op op_mod (pe_callTy call_int1 rfl T.n_int (by decide +kernel) (pa_cons (pe_op op_pow (pe_op op_add (pe_op op_add (pe_op op_mod (pe_callTy call_int1 rfl T.n_int (by decide +kernel) (pa_cons (pv 4) pa_nil)) pe_int) (pe_op op_mul pe_int (pv 3))) pe_int) pe_int) pa_nil)) pe_int))
    (pss_cons (ps_setN 5 nd (pe_op op_mod (pe_callTy call_int1 rfl T.n_int (by decide +kernel) (pa_cons (pe_op op_pow (pe_op op_add (pe_op op_add (pe_op op_mul (pv 5) (pe_op op_add (pe_op op_mul pe_int (pv 3)) pe_int)) (pe_op op_mul (pe_op op_mul pe_int (pv 3)) (pv 3))) pe_int) pe_int) pa_nil)) pe_int))
    (pss_one (ps_ret (pe_op op_mod (pe_callTy call_int1 rfl T.n_int (by decide +kernel) (pa_cons (pe_op op_fdiv (pv 5) pe_int) pa_nil)) (pv 1)))))))))))), ?_⟩
    refine ⟨_, rfl, _, _, _, _, rfl, rfl, SqL.of hw, rfl, _, _, rfl, rfl, _, rfl, ?_⟩
    refine iteS (fun hl => ?_) (fun hl => ?_)
    · refine ⟨_, rfl, _, _, _, _, rfl, rfl, SqL.of hw, rfl, .inl ⟨_, rfl, ?_⟩⟩
      refine ⟨_, rfl, _, rfl, _, _, rfl, rfl, ⟨hm0, hm1⟩, _, rfl, _, _, _, _, rfl, rfl, hw, rfl, ?_⟩
      refine ⟨_, rfl, .inl ⟨_, rfl, _, rfl, _, _, rfl, rfl, hm0, ?_⟩⟩
      exact k _ _ (Int.emod_nonneg _ (by omega)) (Int.emod_lt_of_pos _ hm0) Kp.refl.self ⟨cells, t, _, upd_same, (by rw [upd_ne hcw]; exact hc), hlen, ht0, by omega, hcw⟩
    · refine ⟨_, rfl, _, _, _, _, rfl, rfl, SqL.of hw, rfl, ?_⟩
      refine ⟨_, rfl, _, _, rfl, rfl, _, rfl, _, _, _, _, rfl, rfl, hw, rfl, ?_⟩
      refine ⟨_, rfl, _, _, rfl, rfl, .inl ⟨by decide, by decide⟩, _, _, rfl, rfl, ?_⟩
      have hw1 : (upd H a (.lst [.ref c, .int (t + 1), .int l])) a = some (.lst [.ref c, .int (t + 1), .int l]) := upd_same
      have hc1 : (upd H a (.lst [.ref c, .int (t + 1), .int l])) c = some (.lst (cells.map V.int)) := by rw [upd_ne hcw]; exact hc
      have k1 : Kp a H (upd H a (.lst [.ref c, .int (t + 1), .int l])) := Kp.refl.self
      show (Evl.tCut _ _) _ _ (upd H a (.lst [.ref c, .int (t + 1), .int l]))
      generalize upd H a (.lst [.ref c, .int (t + 1), .int l]) = H1 at hw1 hc1 k1 ⊢
      refine ⟨fun σ' H' => ∃ cell : Int, PailSt H a c many t l cells cell σ' H', ?_, ?_⟩
      · -- if cells != []
        refine ⟨_, rfl, _, _, _, _, rfl, rfl, SqL.of hw1, rfl, Nat.zero_le _, fun p hp => ?_⟩
        have hw2 : (upd H1 p (.lst [])) a = some (.lst [.ref c, .int (t + 1), .int l]) := by rw [upd_ne (ne_of_none hw1 hp)]; exact hw1
        have hc2 : (upd H1 p (.lst [])) c = some (.lst (cells.map V.int)) := by rw [upd_ne (ne_of_none hc1 hp)]; exact hc1
        have k2 : Kp a H (upd H1 p (.lst [])) := k1.new hp
        refine ⟨.list (cells.map PyData.int), .list [], .lst (SqL.of hc2) (dpAll_ints cells), .lst (SqL.of upd_same) .nil, shaped_ints _, by decide, _, rfl, ?_⟩
        refine iteS (fun hb => ?_) (fun hb => ?_)
        · have hne : 0 < cells.length := by
            cases cells with
            | nil => exact absurd hb (by decide)
            | cons x r => exact Nat.succ_pos _
          have hne' : (0 : Int) < ((cells.map V.int).length : Int) := by rw [List.length_map]; omega
          have hb0 := Int.emod_nonneg t (show ((cells.map V.int).length : Int) ≠ 0 by omega)
          have hb1 := Int.emod_lt_of_pos t hne'
          obtain ⟨z, hz⟩ : ∃ z, cells[(t % ((cells.map V.int).length : Int)).toNat]? = some z := by
            rw [List.length_map] at hb0 hb1 ⊢
            exact ⟨_, List.getElem?_eq_getElem (by omega)⟩
          refine ⟨_, rfl, _, _, _, _, rfl, rfl, SqL.of hw2, rfl, ?_⟩
          refine ⟨_, rfl, .inl ⟨_, rfl, _, rfl, _, _, _, _, rfl, rfl, SqL.of hw2, rfl, _, _, rfl, .inl (SqL.of hc2), _, _, rfl, rfl, hne', ?_⟩⟩
          refine ⟨_, _, _, _, rfl, rfl, SqL.of hc2, at_nat (j := (t % ((cells.map V.int).length : Int)).toNat) (by omega) (by rw [List.getElem?_map, hz]; rfl), ?_⟩
          exact ⟨z, rfl, hw2, hc2, k2⟩
        · exact ⟨_, rfl, hw2, hc2, k2⟩
      · rintro σ' H2 ⟨cell, rfl, hw2, hc2, k2⟩
        refine ⟨PailSt H a c many t l cells cell, ?_, ?_⟩
        · refine ⟨_, rfl, _, rfl, _, _, _, _, rfl, rfl, SqL.of hw2, rfl, _, _, rfl, .inl (SqL.of hc2), _, _, rfl, rfl, _, rfl, ?_⟩
          have fin : PailSt H a c many t l cells cell [some (.ref a), some (.int many), none, some (.int t), some (.int cell), none] H2 := ⟨rfl, hw2, hc2, k2⟩
          refine iteS (fun hb => ?_) (fun hb => ?_)
          · refine ⟨_, rfl, _, rfl, _, _, rfl, rfl, ⟨by decide, by decide, by decide⟩, _, _, rfl, rfl, _, rfl, ?_⟩
            refine iteS (fun hb2 => ?_) (fun hb2 => fin)
            refine ⟨_, rfl, _, rfl, _, _, rfl, rfl, ⟨by decide, by decide, by decide⟩, _, _, rfl, rfl, _, _, rfl, rfl, .inl ⟨by decide, by decide⟩, _, rfl, _, _, rfl, rfl, .inr ⟨_, rfl, _, _, rfl, rfl, ?_⟩⟩
            refine ⟨_, rfl, _, rfl, _, _, rfl, rfl, ⟨hm0, hm1⟩, _, rfl, _, _, _, _, rfl, rfl, hw2, rfl, ?_⟩
            refine ⟨_, rfl, .inl ⟨_, rfl, _, rfl, _, _, rfl, rfl, hm0, ?_⟩⟩
            exact k _ _ (Int.emod_nonneg _ (by omega)) (Int.emod_lt_of_pos _ hm0) k2.self ⟨cells, t + 1, _, upd_same, (by rw [upd_ne hcw]; exact hc2), hlen, by omega, by omega, hcw⟩
          · exact fin
        · rintro σ' H3 ⟨rfl, hw3, hc3, k3⟩
          have tb : 0 ≤ t ∧ t ≤ 1000000 := by omega
          refine ⟨_, rfl, .inl ⟨_, rfl, _, _, rfl, rfl, (by show (0 : Int) < _; decide), _, rfl, _, _, rfl, rfl, .inl ⟨by decide, by decide⟩, _, _, rfl, rfl, _, _, rfl, rfl, _, _, rfl, rfl, ⟨by decide, by decide, by show Int.natAbs _ < 2 ^ 64; omega⟩, .inl ⟨_, rfl, _, _, rfl, rfl, (by show (0 : Int) < _; decide), ?_⟩⟩⟩
          refine ⟨_, rfl, _, rfl, _, _, rfl, rfl, .inl ⟨by decide, by decide⟩, _, _, rfl, rfl, _, _, rfl, rfl, .inl (mod_room (by decide) (by decide)), _, rfl, _, _, rfl, rfl, .inl ⟨by decide, by decide⟩, _, rfl, _, _, rfl, rfl, .inr ⟨by omega, by omega⟩, _, _, rfl, rfl, _, _, rfl, rfl, _, _, rfl, rfl, ⟨by decide, by decide, pow_room2 (by omega) tb (by decide) (by decide) (by decide)⟩, .inl ⟨_, rfl, _, _, rfl, rfl, (by show (0 : Int) < _; decide), ?_⟩⟩
          refine ⟨_, rfl, _, _, rfl, rfl, ⟨by decide, by decide⟩, .inl ⟨_, rfl, _, rfl, _, _, rfl, rfl, hm0, ?_⟩⟩
          exact k _ _ (Int.emod_nonneg _ (by omega)) (Int.emod_lt_of_pos _ hm0) k3 ⟨cells, t + 1, _, hw3, hc3, hlen, by omega, by omega, hcw⟩

/-! ### the checks -/
def sp_is_integer (K : PySem.W.Frag) : Sp := fun vs H Q _ => ∃ (x : V) (b3 b4 : Bool), vs = [x] ∧ KnV K H x b3 b4 ∧ Ret (.bl (isI x)) H Q
theorem ok_is_integer (T : Txt K mg) : FnOk P w K mg base CX0 1 (He.fAd K ("is_integer", none)) (fdOf K ("is_integer", none)) ["value"] (sp_is_integer K) := by
  refine ok0 T.d_is_integer sc_is_integer (fun vs H Q E h => ?_) (fun cdv A outer s H vs Q E hr h => ?_)
  · obtain ⟨x, b3, b4, rfl, _⟩ := h
    rfl
  · obtain ⟨x, b3, b4, rfl, ⟨t, b1, b2, ty, k1, k2, k3, k4, e⟩, k⟩ := h
    refine ⟨_, (pss_one (ps_ret (pe_and (pe_callB call_isi rfl T.n_isinstance (by decide +kernel) (pa_cons (pv 0) (pa_cons (pe_bltn (v := .ty "int") rfl T.n_int (by decide +kernel) rfl) pa_nil))) (pe_one (pe_not (pe_callB call_isi rfl T.n_isinstance (by decide +kernel) (pa_cons (pv 0) (pa_cons (pe_bltn (v := .ty "bool") rfl T.n_bool (by decide +kernel) rfl) pa_nil)))))))), ?_⟩
    refine ⟨_, rfl, _, _, _, _, b1, rfl, .ty _, ty, k1, _, rfl, ?_⟩
    refine iteS (fun hb => ?_) (fun hb => ?_)
    · subst hb
      refine ⟨_, rfl, _, _, _, _, b2, rfl, .ty _, ty, k2, _, rfl, ?_⟩
      rw [Bool.true_and] at e
      show Q (.bl (!b2)) H
      rw [e]
      exact k _ (Same.refl _)
    · subst hb
      rw [Bool.false_and] at e
      show Q (.bl false) H
      rw [e]
      exact k _ (Same.refl _)
def leB (l : V) (i : Int) : Bool := match l with
  | .int a => decide (a ≤ i)
  | _ => true
def geB (m : V) (i : Int) : Bool := match m with
  | .int a => decide (i ≤ a)
  | _ => true
def within (x l m : V) : Bool := match x with
  | .int i => leB l i && geB m i
  | _ => false
def IntN (l : V) : Prop := l = .non ∨ ∃ i, l = .int i
def sp_is_within (K : PySem.W.Frag) : Sp := fun vs H Q _ => ∃ (x l m : V) (b3 b4 : Bool), vs = [x, l, m] ∧ KnV K H x b3 b4 ∧ IntN l ∧ IntN m ∧ Ret (.bl (within x l m)) H Q
theorem within_not {x l m : V} (h : isI x = false) : within x l m = false := by
  cases x with
  | int i => cases h
  | _ => rfl
theorem ok_is_within (T : Txt K mg) : FnOk P w K mg base CX0 2 (He.fAd K ("is_within", none)) (fdOf K ("is_within", none)) ["value", "least", "most"] (sp_is_within K) := by
  refine ok0 T.d_is_within sc_is_within (fun vs H Q E h => ?_) (fun cdv A outer s H vs Q E hr h => ?_)
  · obtain ⟨x, l, m, b3, b4, rfl, _⟩ := h
    rfl
  · obtain ⟨x, l, m, b3, b4, rfl, kn, hl, hm, k⟩ := h
    refine ⟨_, (pss_cons (ps_if (PW.pt (pw_or (pt_not (pt_val (pcall (ok_is_integer T) hr (by decide) T.c_is_integer pass0 (pa_cons (pv 0) pa_nil)))) (pw_or1 (PW.pt (pw_and (pt_cmpR op_notN (pv 1) pe_non (nomark _)) (pw_and1 (pt_cmpR op_lt (pv 0) (pv 1) (nomark _)))))))) (pss_one (ps_ret pe_bl)) pss_nil)
    (pss_one (ps_ret (pe_or (pe_cmpR op_isN (pv 2) pe_non (nomark _)) (pe_one (pe_cmpR op_le (pv 0) (pv 2) (nomark _))))))), ?_⟩
    refine ⟨_, rfl, x, b3, b4, rfl, kn, fun H1 s1 => ⟨_, rfl, ?_⟩⟩
    cases hx : isI x with
    | false =>
      refine iteT (iteT ?_)
      have e := within_not (l := l) (m := m) hx
      have q := k H1 s1
      rw [e] at q
      exact q
    | true =>
      obtain ⟨i, rfl⟩ := isI_int hx
      refine iteF ⟨_, rfl, rfl, _, rfl, ?_⟩
      have second : leB l i = true → ∀ (D : Ends) , D.rt = Q → tRet (tOrV (tOp (fun x y H Q => y = V.non ∧ Q (.bl (decide (x = .non))) H) (tVar 2) (tC .non)) (tOp (rI0 fun i j => .bl (decide (i ≤ j))) (tVar 0) (tVar 2))) D [some (.int i), some l, some m] H1 := by
        intro h1 D hD
        refine ⟨_, rfl, rfl, _, rfl, ?_⟩
        rcases hm with rfl | ⟨u, rfl⟩
        · refine iteT ?_
          rw [hD]
          have q := k H1 s1
          have e : within (.int i) l .non = true := by show (leB l i && true) = true; rw [h1]; rfl
          rw [e] at q
          exact q
        · refine iteF ⟨_, rfl, _, rfl, _, _, rfl, rfl, ?_⟩
          rw [hD]
          have q := k H1 s1
          have e : within (.int i) l (.int u) = decide (i ≤ u) := by show (leB l i && decide (i ≤ u)) = _; rw [h1, Bool.true_and]
          rw [e] at q
          exact q
      rcases hl with rfl | ⟨u, rfl⟩
      · refine iteF (iteF ?_)
        exact second rfl _ rfl
      · refine iteT ⟨_, rfl, _, rfl, _, _, rfl, rfl, _, rfl, ?_⟩
        refine iteS (fun hb => ?_) (fun hb => ?_)
        · have e : within (.int i) (.int u) m = false := by
            have h1 : i < u := of_decide_eq_true hb
            show (decide (u ≤ i) && geB m i) = false
            rw [decide_eq_false (by omega)]; rfl
          have q := k H1 s1
          rw [e] at q
          exact q
        · have h1 : ¬ i < u := of_decide_eq_false hb
          exact second (decide_eq_true (by omega)) _ rfl

/-- the items of a list, a tuple have known kinds -/
def KnAll (K : PySem.W.Frag) (H : Hp) (xs : List V) : Prop := ∀ x ∈ xs, ∃ b3 b4, KnV K H x b3 b4
def allI (xs : List V) : Bool := xs.all isI
/-- what is_numbers says: no list, no tuple; a list; a tuple -/
def sp_is_numbers (K : PySem.W.Frag) : Sp := fun vs H Q _ => ∃ (x : V), vs = [x] ∧
  ((KnV K H x false false ∧ Ret (.bl false) H Q) ∨ (∃ (a : Addr) (xs : List V), x = .ref a ∧ (H a = some (.lst xs) ∨ H a = some (.tup xs)) ∧ KnAll K H xs ∧ xs.length ≤ 100000 ∧ Ret (.bl (allI xs)) H Q))
theorem allI_map (xs : List V) : xs.filterMap (fun x => some (V.bl (isI x))) = (xs.map isI).map V.bl := by
  rw [fm_some, List.map_map]; rfl
theorem allI_id (xs : List V) : (xs.map isI).all id = allI xs := by
  unfold allI
  rw [List.all_map]; rfl
theorem ok_is_numbers (T : Txt K mg) : FnOk P w K mg base CX0 2 (He.fAd K ("is_numbers", none)) (fdOf K ("is_numbers", none)) ["value"] (sp_is_numbers K) := by
  refine ok0 T.d_is_numbers sc_is_numbers (fun vs H Q E h => ?_) (fun cdv A outer s H vs Q E hr h => ?_)
  · obtain ⟨x, rfl, _⟩ := h
    rfl
  · obtain ⟨x, rfl, h⟩ := h
    have nd := sc_is_numbers.nd
    rcases h with ⟨⟨t, b1, b2, ty, k1, k2, k3, k4, e⟩, k⟩ | ⟨a, xs, rfl, h1 | h1, hk, hz, k⟩
    · refine ⟨_, (pss_one (ps_ret (pe_and (pe_callB call_isiT rfl T.n_isinstance (by decide +kernel) (pa_cons (pv 0) (pa_cons (pe_tup (pa_cons (pe_bltn (v := .ty "list") rfl T.n_list (by decide +kernel) rfl) (pa_cons (pe_bltn (v := .ty "tuple") rfl T.n_tuple (by decide +kernel) rfl) pa_nil))) pa_nil))) (pe_one (pe_callB (cr_all rfl) rfl T.n_all (by decide +kernel) (pa_cons (pe_lc (own := [("part", 1)]) rfl nd (pi_list (pv 0)) (blk_k (by kernel_rfl)) (fun _ _ _ _ _ => (pgn 1 nd)) (fun _ _ _ _ _ => pts_nil) (fun _ _ _ _ _ => (pcall (ok_is_integer T) hr (by decide) T.c_is_integer pass0 (pa_cons (pv 1) pa_nil)))) pa_nil)))))), ?_⟩
      refine ⟨_, rfl, by show 2 ≤ sizeLine; decide, fun p hp => ?_⟩
      refine ⟨x, p, [.ty "list", .ty "tuple"], t, [.type "list", .type "tuple"], false, rfl, upd_same, .cons (.ty _) (.cons (.ty _) .nil), ?_, ?_, _, rfl, ?_⟩
      · exact ty_same ty (same_new hp)
      · exact kitAny_cons k3 (fun _ => kitAny_cons k4 (fun _ => kitAny_nil) (fun z => nomatch z)) (fun z => nomatch z)
      · exact iteF (k _ (same_new hp))
    · refine ⟨_, (pss_one (ps_ret (pe_and (pe_callB call_isiT rfl T.n_isinstance (by decide +kernel) (pa_cons (pv 0) (pa_cons (pe_tup (pa_cons (pe_bltn (v := .ty "list") rfl T.n_list (by decide +kernel) rfl) (pa_cons (pe_bltn (v := .ty "tuple") rfl T.n_tuple (by decide +kernel) rfl) pa_nil))) pa_nil))) (pe_one (pe_callB (cr_all rfl) rfl T.n_all (by decide +kernel) (pa_cons (pe_lc (own := [("part", 1)]) rfl nd (pi_list (pv 0)) (blk_k (by kernel_rfl)) (fun _ _ _ _ _ => (pgn 1 nd)) (fun _ _ _ _ _ => pts_nil) (fun _ _ _ _ _ => (pcall (ok_is_integer T) hr (by decide) T.c_is_integer pass0 (pa_cons (pv 1) pa_nil)))) pa_nil)))))), ?_⟩
      refine ⟨_, rfl, by show 2 ≤ sizeLine; decide, fun p hp => ?_⟩
      have s1 := same_new (o := .tup [.ty "list", .ty "tuple"]) hp
      refine ⟨.ref a, p, [.ty "list", .ty "tuple"], .type "list", [.type "list", .type "tuple"], true, rfl, upd_same, .cons (.ty _) (.cons (.ty _) .nil), .base (.lst (s1 _ _ h1)), ?_, _, rfl, ?_⟩
      · exact kitAny_cons (b := true) (kit_ty (by decide +kernel)) (fun z => nomatch z) (fun _ => rfl)
      refine iteT ⟨_, rfl, a, rfl, ⟨_, SqL.of (s1 _ _ h1)⟩, fun D hD => lc_pureL (fun x => some (V.bl (isI x))) (SqL.of (s1 _ _ h1)) hD hz (fun x H' Qk Qs hx sx hk1 hk2 => ?_) (fun H' s2 e => ?_)⟩
      · refine ⟨rfl, _, rfl, ?_⟩
        obtain ⟨b3, b4, kn⟩ := hk x hx
        exact ⟨x, b3, b4, rfl, kn.same (s1.trans sx), fun H2 s2 => hk1 _ _ rfl s2⟩
      · rw [allI_map] at e
        refine ⟨_, _, rfl, SqL.of e, ?_⟩
        rw [allI_id]
        exact k _ (s1.trans s2)
    · refine ⟨_, (pss_one (ps_ret (pe_and (pe_callB call_isiT rfl T.n_isinstance (by decide +kernel) (pa_cons (pv 0) (pa_cons (pe_tup (pa_cons (pe_bltn (v := .ty "list") rfl T.n_list (by decide +kernel) rfl) (pa_cons (pe_bltn (v := .ty "tuple") rfl T.n_tuple (by decide +kernel) rfl) pa_nil))) pa_nil))) (pe_one (pe_callB (cr_all rfl) rfl T.n_all (by decide +kernel) (pa_cons (pe_lc (own := [("part", 1)]) rfl nd (pi_tup (pv 0)) (blk_k (by kernel_rfl)) (fun _ _ _ _ _ => (pgn 1 nd)) (fun _ _ _ _ _ => pts_nil) (fun _ _ _ _ _ => (pcall (ok_is_integer T) hr (by decide) T.c_is_integer pass0 (pa_cons (pv 1) pa_nil)))) pa_nil)))))), ?_⟩
      refine ⟨_, rfl, by show 2 ≤ sizeLine; decide, fun p hp => ?_⟩
      have s1 := same_new (o := .tup [.ty "list", .ty "tuple"]) hp
      refine ⟨.ref a, p, [.ty "list", .ty "tuple"], .type "tuple", [.type "list", .type "tuple"], true, rfl, upd_same, .cons (.ty _) (.cons (.ty _) .nil), .base (.tup (s1 _ _ h1)), ?_, _, rfl, ?_⟩
      · exact kitAny_cons (b := false) (kit_ty (by decide +kernel)) (fun _ => kitAny_cons (b := true) (kit_ty (by decide +kernel)) (fun z => nomatch z) (fun _ => rfl)) (fun z => nomatch z)
      refine iteT ⟨_, rfl, a, rfl, ⟨_, SqT.of (s1 _ _ h1)⟩, fun D hD => lc_pureT (fun x => some (V.bl (isI x))) (SqT.of (s1 _ _ h1)) hD hz (fun x H' Qk Qs hx sx hk1 hk2 => ?_) (fun H' s2 e => ?_)⟩
      · refine ⟨rfl, _, rfl, ?_⟩
        obtain ⟨b3, b4, kn⟩ := hk x hx
        exact ⟨x, b3, b4, rfl, kn.same (s1.trans sx), fun H2 s2 => hk1 _ _ rfl s2⟩
      · rw [allI_map] at e
        refine ⟨_, _, rfl, SqL.of e, ?_⟩
        rw [allI_id]
        exact k _ (s1.trans s2)
def primesV : List V := [.int 2, .int 3, .int 5, .int 7, .int 11, .int 13, .int 17, .int 19, .int 23, .int 29, .int 31, .int 37, .int 41, .int 43, .int 47, .int 53, .int 59, .int 61, .int 67, .int 71, .int 73, .int 79, .int 83, .int 89, .int 97]
def isPr (x : V) : Bool := isI x && inV x primesV
def sp_is_prime (K : PySem.W.Frag) : Sp := fun vs H Q _ => ∃ (x : V) (b3 b4 : Bool), vs = [x] ∧ KnV K H x b3 b4 ∧ Ret (.bl (isPr x)) H Q
theorem ok_is_prime (T : Txt K mg) : FnOk P w K mg base CX0 2 (He.fAd K ("is_prime", none)) (fdOf K ("is_prime", none)) ["value"] (sp_is_prime K) := by
  refine ok0 T.d_is_prime sc_is_prime (fun vs H Q E h => ?_) (fun cdv A outer s H vs Q E hr h => ?_)
  · obtain ⟨x, b3, b4, rfl, _⟩ := h
    rfl
  · obtain ⟨x, b3, b4, rfl, kn, k⟩ := h
    refine ⟨_, (pss_one (ps_ret (pe_and (pcall (ok_is_integer T) hr (by decide) T.c_is_integer pass0 (pa_cons (pv 0) pa_nil)) (pe_one (pe_cmpR op_in_seq (pv 0) (pe_glob (v := .ref _) rfl T.g_PRIMES rfl) (by rfl)))))), ?_⟩
    refine ⟨_, rfl, x, b3, b4, rfl, kn, fun H1 s1 => ⟨_, rfl, ?_⟩⟩
    have q := k H1 s1
    unfold isPr at q
    cases hx : isI x with
    | false =>
      rw [hx] at q
      exact iteF q
    | true =>
      rw [hx] at q
      obtain ⟨i, rfl⟩ := isI_int hx
      refine iteT ⟨_, rfl, _, primesV, rfl, .inr (T.t_PRIMES H1), rfl, by decide, ?_⟩
      rw [Bool.true_and] at q
      exact q
def isSg (p x : V) : Bool := isPr p && within x (.int 0) (match p with | .int i => .int (i - 1) | _ => .non)
def sp_is_sign (K : PySem.W.Frag) : Sp := fun vs H Q _ => ∃ (p x : V) (b3 b4 c3 c4 : Bool), vs = [p, x] ∧ KnV K H p b3 b4 ∧ KnV K H x c3 c4 ∧ Ret (.bl (isSg p x)) H Q
theorem ok_is_sign (T : Txt K mg) : FnOk P w K mg base CX0 3 (He.fAd K ("is_sign", none)) (fdOf K ("is_sign", none)) ["p", "value"] (sp_is_sign K) := by
  refine ok0 T.d_is_sign sc_is_sign (fun vs H Q E h => ?_) (fun cdv A outer s H vs Q E hr h => ?_)
  · obtain ⟨p, x, b3, b4, c3, c4, rfl, _⟩ := h
    rfl
  · obtain ⟨p, x, b3, b4, c3, c4, rfl, kp, kx, k⟩ := h
    refine ⟨_, (pss_one (ps_ret (pe_and (pcall (ok_is_prime T) hr (by decide) T.c_is_prime pass0 (pa_cons (pv 0) pa_nil)) (pe_one (pcall (ok_is_within T) hr (by decide) T.c_is_within pass0 (pa_cons (pv 1) (pa_cons pe_int (pa_cons (pe_op op_sub (pv 0) pe_int) pa_nil)))))))), ?_⟩
    refine ⟨_, rfl, p, b3, b4, rfl, kp, fun H1 s1 => ⟨_, rfl, ?_⟩⟩
    have q := k
    unfold isSg at q
    cases hp : isPr p with
    | false =>
      rw [hp] at q
      exact iteF (q _ s1)
    | true =>
      rw [hp] at q
      obtain ⟨i, rfl⟩ := isI_int (show isI p = true by unfold isPr at hp; exact (Bool.and_eq_true_iff.mp hp).1)
      refine iteT ⟨_, rfl, _, rfl, _, _, rfl, rfl, x, .int 0, .int (i - 1), c3, c4, rfl, kx.same s1, .inr ⟨_, rfl⟩, .inr ⟨_, rfl⟩, fun H2 s2 => ?_⟩
      have q2 := q H2 (s1.trans s2)
      rw [Bool.true_and] at q2
      exact q2

/-! ### as_tuples, first_twice -/
def sp_as0 (K : PySem.W.Frag) : Sp := fun vs H Q _ => ∃ x : V, vs = [x] ∧ KnV K H x false false ∧ Ret x H Q
theorem ok_as0 (T : Txt K mg) : FnOk P w K mg base CX0 1 (He.fAd K ("as_tuples", none)) (fdOf K ("as_tuples", none)) ["value"] (sp_as0 K) := by
  refine ok0 T.d_as_tuples sc_as_tuples (fun vs H Q E h => ?_) (fun cdv A outer s H vs Q E hr h => ?_)
  · obtain ⟨x, rfl, _⟩ := h
    rfl
  · obtain ⟨x, rfl, ⟨t, b1, b2, ty, k1, k2, k3, k4, e⟩, k⟩ := h
    refine ⟨_, (pss_one (ps_ret (pe_ifExp (pt_val (pe_callB call_isiT rfl T.n_isinstance (by decide +kernel) (pa_cons (pv 0) (pa_cons (pe_tup (pa_cons (pe_bltn (v := .ty "list") rfl T.n_list (by decide +kernel) rfl) (pa_cons (pe_bltn (v := .ty "tuple") rfl T.n_tuple (by decide +kernel) rfl) pa_nil))) pa_nil)))) peNever (pv 0)))), ?_⟩
    exact ⟨_, rfl, two_sz, fun p hp => ⟨_, p, _, t, _, _, rfl, upd_same, .cons (.ty _) (.cons (.ty _) .nil), ty_same ty (same_new hp), kitLT k3 k4, _, rfl, iteF ⟨_, rfl, k _ (same_new hp)⟩⟩⟩
/-- a list, a tuple of such that stay as they are -/
def sp_as1 (K : PySem.W.Frag) : Sp := fun vs H Q _ => ∃ (a : Addr) (xs : List V), vs = [.ref a] ∧ (H a = some (.lst xs) ∨ H a = some (.tup xs)) ∧ (∀ x ∈ xs, KnV K H x false false) ∧ xs.length ≤ 100000 ∧
  ∀ p H', H p = none → Same H H' → H' p = some (.tup xs) → Q (.ref p) H'
theorem ok_as1 (T : Txt K mg) : FnOk P w K mg base CX0 2 (He.fAd K ("as_tuples", none)) (fdOf K ("as_tuples", none)) ["value"] (sp_as1 K) := by
  refine ok0 T.d_as_tuples sc_as_tuples (fun vs H Q E h => ?_) (fun cdv A outer s H vs Q E hr h => ?_)
  · obtain ⟨a, xs, rfl, _⟩ := h
    rfl
  · obtain ⟨a, xs, rfl, h1, hk, hz, k⟩ := h
    have nd := sc_as_tuples.nd
    have idf : ∀ l : List V, l.filterMap (fun x => some x) = l := fun l => by rw [fm_some (fun x => x)]; exact List.map_id' l
    rcases h1 with h1 | h1
    · refine ⟨_, (pss_one (ps_ret (pe_ifExp (pt_val (pe_callB call_isiT rfl T.n_isinstance (by decide +kernel) (pa_cons (pv 0) (pa_cons (pe_tup (pa_cons (pe_bltn (v := .ty "list") rfl T.n_list (by decide +kernel) rfl) (pa_cons (pe_bltn (v := .ty "tuple") rfl T.n_tuple (by decide +kernel) rfl) pa_nil))) pa_nil)))) (pe_callTy call_tuple_of rfl T.n_tuple (by decide +kernel) (pa_cons (pe_lc (own := [("part", 1)]) rfl nd (pi_list (pv 0)) (blk_k (by kernel_rfl)) (fun _ _ _ _ _ => (pgn 1 nd)) (fun _ _ _ _ _ => pts_nil) (fun _ _ _ _ _ => (pcall (ok_as0 T) hr (by decide) T.c_as_tuples pass0 (pa_cons (pv 1) pa_nil)))) pa_nil)) (pv 0)))), ?_⟩
      obtain ⟨t, b1, b2, ty, k1, k2, k3, k4, e⟩ := kn_lst (K := K) h1
      refine ⟨_, rfl, two_sz, fun p hp => ⟨_, p, _, t, _, _, rfl, upd_same, .cons (.ty _) (.cons (.ty _) .nil), ty_same ty (same_new hp), kitLT k3 k4, _, rfl, iteT ?_⟩⟩
      have s1 := same_new (o := .tup [.ty "list", .ty "tuple"]) hp
      refine ⟨_, rfl, a, rfl, ⟨_, SqL.of (s1 _ _ h1)⟩, fun D hD => lc_pureL (fun x => some x) (SqL.of (s1 _ _ h1)) hD hz (fun x H' Qk Qs hx sx hk1 hk2 => ?_) (fun H' s2 e => ?_)⟩
      · refine ⟨rfl, _, rfl, ?_⟩
        exact ⟨x, rfl, (hk x hx).same (s1.trans sx), fun H2 s2 => hk1 _ _ rfl s2⟩
      · rw [idf] at e
        refine ⟨_, _, rfl, .inl ⟨SqL.of e, fun l hl => ?_⟩⟩
        exact k _ _ ((s1.trans s2).free hl) ((s1.trans s2).newB hl) upd_same
    · refine ⟨_, (pss_one (ps_ret (pe_ifExp (pt_val (pe_callB call_isiT rfl T.n_isinstance (by decide +kernel) (pa_cons (pv 0) (pa_cons (pe_tup (pa_cons (pe_bltn (v := .ty "list") rfl T.n_list (by decide +kernel) rfl) (pa_cons (pe_bltn (v := .ty "tuple") rfl T.n_tuple (by decide +kernel) rfl) pa_nil))) pa_nil)))) (pe_callTy call_tuple_of rfl T.n_tuple (by decide +kernel) (pa_cons (pe_lc (own := [("part", 1)]) rfl nd (pi_tup (pv 0)) (blk_k (by kernel_rfl)) (fun _ _ _ _ _ => (pgn 1 nd)) (fun _ _ _ _ _ => pts_nil) (fun _ _ _ _ _ => (pcall (ok_as0 T) hr (by decide) T.c_as_tuples pass0 (pa_cons (pv 1) pa_nil)))) pa_nil)) (pv 0)))), ?_⟩
      obtain ⟨t, b1, b2, ty, k1, k2, k3, k4, e⟩ := kn_tup (K := K) h1
      refine ⟨_, rfl, two_sz, fun p hp => ⟨_, p, _, t, _, _, rfl, upd_same, .cons (.ty _) (.cons (.ty _) .nil), ty_same ty (same_new hp), kitLT k3 k4, _, rfl, iteT ?_⟩⟩
      have s1 := same_new (o := .tup [.ty "list", .ty "tuple"]) hp
      refine ⟨_, rfl, a, rfl, ⟨_, SqT.of (s1 _ _ h1)⟩, fun D hD => lc_pureT (fun x => some x) (SqT.of (s1 _ _ h1)) hD hz (fun x H' Qk Qs hx sx hk1 hk2 => ?_) (fun H' s2 e => ?_)⟩
      · refine ⟨rfl, _, rfl, ?_⟩
        exact ⟨x, rfl, (hk x hx).same (s1.trans sx), fun H2 s2 => hk1 _ _ rfl s2⟩
      · rw [idf] at e
        refine ⟨_, _, rfl, .inl ⟨SqL.of e, fun l hl => ?_⟩⟩
        exact k _ _ ((s1.trans s2).free hl) ((s1.trans s2).newB hl) upd_same
/-- refs to tuples of these items -/
def TupsAt (H : Hp) : List Addr → List (List V) → Prop := Paired fun p ys => H p = some (.tup ys)
theorem TupsAt.same {H H' : Hp} (s : Same H H') {ps : List Addr} {yss : List (List V)} (h : TupsAt H ps yss) : TupsAt H' ps yss := Paired.mapP h fun _ _ e => s _ _ e
theorem TupsAt.snoc {H : Hp} {p : Addr} {ys : List V} (hp : H p = some (.tup ys)) : ∀ {ps : List Addr} {yss : List (List V)}, TupsAt H ps yss → TupsAt H (ps ++ [p]) (yss ++ [ys])
  | _, _, .nil => .cons hp .nil
  | _, _, .cons r t => .cons r (TupsAt.snoc hp t)
theorem TupsAt.get {H : Hp} : ∀ {ps : List Addr} {yss : List (List V)} {i : Nat} {p : Addr}, TupsAt H ps yss → ps[i]? = some p → ∃ ys, yss[i]? = some ys ∧ H p = some (.tup ys)
  | _, _, i, _, .nil, e => by simp at e
  | _, _, 0, _, .cons r _, e => by
    have e' := Option.some.inj e
    rw [← e']
    exact ⟨_, rfl, r⟩
  | _, _, i + 1, _, .cons _ t, e => TupsAt.get (i := i) t e
theorem TupsAt.len {H : Hp} {ps : List Addr} {yss : List (List V)} (h : TupsAt H ps yss) : ps.length = yss.length := Paired.length h
/-- a tuple of tuples -/
def sp_as2 (K : PySem.W.Frag) : Sp := fun vs H Q _ => ∃ (a : Addr) (ps : List Addr) (yss : List (List V)), vs = [.ref a] ∧ H a = some (.tup (ps.map V.ref)) ∧ TupsAt H ps yss ∧ (∀ ys ∈ yss, ys.length ≤ 100000 ∧ ∀ x ∈ ys, KnV K H x false false) ∧ ps.length ≤ 100000 ∧
  ∀ p qs H', H p = none → Same H H' → H' p = some (.tup (qs.map V.ref)) → TupsAt H' qs yss → Q (.ref p) H'
theorem ok_as2 (T : Txt K mg) : FnOk P w K mg base CX0 3 (He.fAd K ("as_tuples", none)) (fdOf K ("as_tuples", none)) ["value"] (sp_as2 K) := by
  refine ok0 T.d_as_tuples sc_as_tuples (fun vs H Q E h => ?_) (fun cdv A outer s H vs Q E hr h => ?_)
  · obtain ⟨a, ps, yss, rfl, _⟩ := h
    rfl
  · obtain ⟨a, ps, yss, rfl, h1, ht, hk, hz, k⟩ := h
    have nd := sc_as_tuples.nd
    refine ⟨_, (pss_one (ps_ret (pe_ifExp (pt_val (pe_callB call_isiT rfl T.n_isinstance (by decide +kernel) (pa_cons (pv 0) (pa_cons (pe_tup (pa_cons (pe_bltn (v := .ty "list") rfl T.n_list (by decide +kernel) rfl) (pa_cons (pe_bltn (v := .ty "tuple") rfl T.n_tuple (by decide +kernel) rfl) pa_nil))) pa_nil)))) (pe_callTy call_tuple_of rfl T.n_tuple (by decide +kernel) (pa_cons (pe_lc (own := [("part", 1)]) rfl nd (pi_tup (pv 0)) (blk_k (by kernel_rfl)) (fun _ _ _ _ _ => (pgn 1 nd)) (fun _ _ _ _ _ => pts_nil) (fun _ _ _ _ _ => (pcall (ok_as1 T) hr (by decide) T.c_as_tuples pass0 (pa_cons (pv 1) pa_nil)))) pa_nil)) (pv 0)))), ?_⟩
    obtain ⟨t, b1, b2, ty, k1, k2, k3, k4, e⟩ := kn_tup (K := K) h1
    refine ⟨_, rfl, two_sz, fun p hp => ⟨_, p, _, t, _, _, rfl, upd_same, .cons (.ty _) (.cons (.ty _) .nil), ty_same ty (same_new hp), kitLT k3 k4, _, rfl, iteT ?_⟩⟩
    have s1 := same_new (o := .tup [.ty "list", .ty "tuple"]) hp
    generalize upd H p (.tup [.ty "list", .ty "tuple"]) = H1 at s1 ⊢
    refine ⟨_, rfl, a, rfl, ⟨_, SqT.of (s1 _ _ h1)⟩, fun D hD => lc_tup (xs := ps.map V.ref) (fun i H' => ∃ qs, H' D = some (.lst (qs.map V.ref)) ∧ TupsAt H' qs (yss.take i) ∧ Same H1 H') ⟨[], upd_same, .nil, same_new hD⟩ (fun i H' _ ⟨_, _, _, q⟩ => Same.tup q (SqT.of (s1 _ _ h1))) (fun i x H' hi ⟨qs, hq, hT, sx⟩ => ?_) (fun H' ⟨qs, hq, hT, sx⟩ => ?_)⟩
    · obtain ⟨b, hb, rfl⟩ : ∃ b, ps[i]? = some b ∧ x = V.ref b := by
        rw [List.getElem?_map] at hi
        cases e : ps[i]? with
        | none => rw [e] at hi; cases hi
        | some b => rw [e] at hi; exact ⟨b, rfl, (Option.some.inj hi).symm⟩
      obtain ⟨ys, hys, hby⟩ := ht.get hb
      obtain ⟨hl, hkn⟩ := hk ys (List.mem_of_getElem? hys)
      have s2 := s1.trans sx
      refine ⟨rfl, _, rfl, ?_⟩
      refine ⟨b, ys, rfl, .inr (s2 _ _ hby), fun x hx => (hkn x hx).same s2, hl, fun q H2 hq0 s3 hq2 => ?_⟩
      have hlt := (List.getElem?_eq_some_iff.mp hb).1
      refine ⟨_, s3 _ _ hq, ?_, qs ++ [q], ?_, ?_, ?_⟩
      · rw [List.length_map, TupsAt.len hT]
        refine szl ?_
        have := List.length_take_le i yss
        omega
      · rw [List.map_append]; exact upd_same
      · have tk : yss.take (i + 1) = yss.take i ++ [ys] := by rw [List.take_succ, hys]; rfl
        have s4 : ∀ b o, b ≠ D → H2 b = some o → upd H2 D (.lst (qs.map V.ref ++ [V.ref q])) b = some o := fun b o n e => by rw [upd_ne n]; exact e
        rw [tk]
        have nq : q ≠ D := fun z => by rw [z, hq] at hq0; cases hq0
        refine TupsAt.snoc (s4 _ _ nq hq2) ?_
        refine Paired.mapP hT fun c ys e => s4 _ _ (fun z => ?_) (s3 _ _ e)
        rw [z, hq] at e; cases e
      · intro c o e
        rw [upd_ne (ne_of_none e hD)]
        exact s3 _ _ (sx _ _ e)
    · have el : (ps.map V.ref).length = yss.length := by rw [List.length_map]; exact ht.len
      rw [el, List.take_length] at hT
      have s2 := s1.trans sx
      refine ⟨_, _, rfl, .inl ⟨SqL.of hq, fun l hl => ?_⟩⟩
      exact k l qs _ (s2.free hl) (s2.newB hl) upd_same (hT.same (same_new hl))
def intN (o : Option Int) : V := match o with
  | none => .non
  | some i => .int i
def sp_ft1 (K : PySem.W.Frag) : Sp := fun vs H Q _ => ∃ (a : Addr) (ns : List Int), vs = [.ref a] ∧ (H a = some (.lst (ns.map V.int)) ∨ H a = some (.tup (ns.map V.int))) ∧ ns.length ≤ 1000 ∧ Ret (intN (ftw [] ns)) H Q
theorem ok_ft1 (T : Txt K mg) : FnOk P w K mg base CX0 3 (He.fAd K ("first_twice", none)) (fdOf K ("first_twice", none)) ["values"] (sp_ft1 K) := by
  refine ok0 T.d_first_twice sc_first_twice (fun vs H Q E h => ?_) (fun cdv A outer s H vs Q E hr h => ?_)
  · obtain ⟨a, ns, rfl, _⟩ := h
    rfl
  · obtain ⟨a, ns, rfl, h1, hz, k⟩ := h
    have nd := sc_first_twice.nd
    refine ⟨_, (pss_cons (ps_setN 1 nd pe_dnewK)
    (pss_cons (ps_for PassesOwn.never rfl (pi_tup (pcall (ok_as1 T) hr (by decide) T.c_as_tuples pass0 (pa_cons (pv 0) pa_nil))) (pgn 2 nd) (pss_cons (ps_if (pt_cmp (pc_din (hu_of hr) (pv 2) (pv 1)) rfl) (pss_one (ps_ret (pv 2))) pss_nil)
    (pss_one (ps_dput (hu_of hr) (pv 1) (pv 2) pe_bl rfl))))
    (pss_one (ps_ret pe_non)))), ?_⟩
    intro d hd
    have s1 := same_new (o := .dK []) hd
    refine ⟨_, rfl, a, ns.map V.int, rfl, h1.imp (s1 _ _) (s1 _ _), fun x hx => ?_, by rw [List.length_map]; omega, fun p H1 hp s2 h2 => ?_⟩
    · obtain ⟨i, _, rfl⟩ := List.mem_map.mp hx
      exact kn_int i
    refine ⟨p, rfl, ⟨_, SqT.of h2⟩, for_tup (K := K) (a := p) (xs := ns.map V.int) (fun i σ H' => ∃ (v : Option V) (kvs : List (Key × V)), σ = [some (.ref a), some (.ref d), v] ∧ H' p = some (.tup (ns.map V.int)) ∧ H' d = some (.dK kvs) ∧ kvs.map (·.1) = (ns.take i).map Sum.inl ∧ Same H H' ∧ ftw [] ns = ftw (ns.take i) (ns.drop i))
      ⟨none, [], rfl, h2, s2 _ _ upd_same, rfl, s1.trans s2, rfl⟩ (fun i σ H' _ ⟨_, _, _, q, _⟩ => SqT.of q) ?_ ?_⟩
    · rintro i x σ H' hi ⟨v, kvs, rfl, hT, hD, hk, sx, hf⟩
      obtain ⟨n, hn, rfl⟩ : ∃ n, ns[i]? = some n ∧ x = V.int n := by
        rw [List.getElem?_map] at hi
        cases e : ns[i]? with
        | none => rw [e] at hi; cases hi
        | some b => rw [e] at hi; exact ⟨b, rfl, (Option.some.inj hi).symm⟩
      rw [ftw_step hn] at hf
      have hmem : (Sum.inl n : Key) ∈ kvs.map (·.1) ↔ n ∈ ns.take i := by
        rw [hk]
        constructor
        · intro z
          obtain ⟨m, hm, e⟩ := List.mem_map.mp z
          rw [← Sum.inl.inj e]; exact hm
        · intro z; exact List.mem_map.mpr ⟨n, z, rfl⟩
      refine ⟨_, rfl, _, rfl, d, _, rfl, DGet.k (k := Sum.inl n) hD, _, rfl, ?_⟩
      refine iteS (fun hb => ?_) (fun hb => ?_)
      · have hin := hmem.mp (valV_iff.mp hb)
        rw [if_pos hin] at hf
        refine ⟨_, rfl, ?_⟩
        have q := k H' sx
        rw [hf] at q
        exact q
      · have hnot : (Sum.inl n : Key) ∉ kvs.map (·.1) := valV_not hb
        rw [if_neg (fun z => hnot (hmem.mpr z))] at hf
        have hlen : kvs.length < sizeLine := by
          have e : (kvs.map (·.1)).length = ((ns.take i).map (Sum.inl : Int → Key)).length := by rw [hk]
          rw [List.length_map, List.length_map] at e
          have := List.length_take_le i ns
          have := (List.getElem?_eq_some_iff.mp hn).1
          exact szl (by omega)
        refine ⟨_, rfl, _, rfl, d, _, rfl, DPut.k (k := Sum.inl n) hD hlen, ?_⟩
        have npd : p ≠ d := ne_of hT hD (by intro z; cases z)
        refine ⟨_, _, rfl, ?_, upd_same, ?_, ?_, hf⟩
        · rw [upd_ne npd]; exact hT
        · rw [putK_new hnot, List.map_append, hk, List.take_succ, hn, List.map_append]; rfl
        · intro b o e
          rw [upd_ne (ne_of_none e hd)]
          exact sx _ _ e
    · rintro σ H' ⟨v, kvs, rfl, hT, hD, hk, sx, hf⟩
      rw [List.length_map, List.drop_length] at hf
      have q := k H' sx
      rw [hf] at q
      exact q

def sp_ft2 (K : PySem.W.Frag) : Sp := fun vs H Q _ => ∃ (a : Addr) (ps : List Addr) (yss : List (List Int)), vs = [.ref a] ∧ H a = some (.tup (ps.map V.ref)) ∧ TupsAt H ps (yss.map fun ys => ys.map V.int) ∧ (∀ ys ∈ yss, ys.length ≤ 1000) ∧ ps.length ≤ 1000 ∧
  (ftw [] yss = none → Ret .non H Q) ∧ (∀ ys p H', ftw [] yss = some ys → Same H H' → H' p = some (.tup (ys.map V.int)) → Q (.ref p) H')
theorem ok_ft2 (T : Txt K mg) : FnOk P w K mg base CX0 4 (He.fAd K ("first_twice", none)) (fdOf K ("first_twice", none)) ["values"] (sp_ft2 K) := by
  refine ok0 T.d_first_twice sc_first_twice (fun vs H Q E h => ?_) (fun cdv A outer s H vs Q E hr h => ?_)
  · obtain ⟨a, ps, yss, rfl, _⟩ := h
    rfl
  · obtain ⟨a, ps, yss, rfl, h1, ht, hl, hz, k1, k2⟩ := h
    have nd := sc_first_twice.nd
    refine ⟨_, (pss_cons (ps_setN 1 nd pe_dnewT)
    (pss_cons (ps_for PassesOwn.never rfl (pi_tup (pcall (ok_as2 T) hr (by decide) T.c_as_tuples pass0 (pa_cons (pv 0) pa_nil))) (pgn 2 nd) (pss_cons (ps_if (pt_cmp (pc_din (hu_of hr) (pv 2) (pv 1)) rfl) (pss_one (ps_ret (pv 2))) pss_nil)
    (pss_one (ps_dput (hu_of hr) (pv 1) (pv 2) pe_bl rfl))))
    (pss_one (ps_ret pe_non)))), ?_⟩
    intro d hd
    have s1 := same_new (o := .dT []) hd
    refine ⟨_, rfl, a, ps, yss.map fun ys => ys.map V.int, rfl, s1 _ _ h1, ht.same s1, fun ys hy => ?_, by omega, fun p qs H1 hp s2 h2 hT => ?_⟩
    · obtain ⟨y, hy2, rfl⟩ := List.mem_map.mp hy
      refine ⟨by rw [List.length_map]; have := hl y hy2; omega, fun x hx => ?_⟩
      obtain ⟨i, _, rfl⟩ := List.mem_map.mp hx
      exact kn_int i
    have len : qs.length = yss.length := by have := hT.len; rw [List.length_map] at this; exact this
    have len2 : ps.length = yss.length := by have := ht.len; rw [List.length_map] at this; exact this
    refine ⟨p, rfl, ⟨_, SqT.of h2⟩, for_tup (K := K) (a := p) (xs := qs.map V.ref) (fun i σ H' => ∃ (v : Option V) (kvs : List (List Key × V)), σ = [some (.ref a), some (.ref d), v] ∧ H' p = some (.tup (qs.map V.ref)) ∧ TupsAt H' qs (yss.map fun ys => ys.map V.int) ∧ H' d = some (.dT kvs) ∧ kvs.map (·.1) = (yss.take i).map (fun ys => ys.map (Sum.inl : Int → Key)) ∧ Same H H' ∧ ftw [] yss = ftw (yss.take i) (yss.drop i))
      ⟨none, [], rfl, h2, hT, s2 _ _ upd_same, rfl, s1.trans s2, rfl⟩ (fun i σ H' _ ⟨_, _, _, q, _⟩ => SqT.of q) ?_ ?_⟩
    · rintro i x σ H' hi ⟨v, kvs, rfl, hP, hT', hD, hk, sx, hf⟩
      obtain ⟨b, hb, rfl⟩ : ∃ b, qs[i]? = some b ∧ x = V.ref b := by
        rw [List.getElem?_map] at hi
        cases e : qs[i]? with
        | none => rw [e] at hi; cases hi
        | some b => rw [e] at hi; exact ⟨b, rfl, (Option.some.inj hi).symm⟩
      obtain ⟨ysV, hys, hby⟩ := hT'.get hb
      obtain ⟨ys, hn, rfl⟩ : ∃ ys, yss[i]? = some ys ∧ ysV = ys.map V.int := by
        rw [List.getElem?_map] at hys
        cases e : yss[i]? with
        | none => rw [e] at hys; cases hys
        | some b => rw [e] at hys; exact ⟨b, rfl, (Option.some.inj hys).symm⟩
      rw [ftw_step hn] at hf
      have hbk : H' b = some (.tup ((ys.map (Sum.inl : Int → Key)).map kV)) := by
        rw [hby, List.map_map]; rfl
      have inj : ∀ a b : List Int, a.map (Sum.inl : Int → Key) = b.map Sum.inl → a = b := by
        intro a
        induction a with
        | nil => intro b h; cases b with | nil => rfl | cons _ _ => cases h
        | cons x r ih =>
          intro b h
          cases b with
          | nil => cases h
          | cons y t =>
            rw [List.map_cons, List.map_cons] at h
            injection h with e1 e2
            rw [Sum.inl.inj e1, ih t e2]
      have hmem : (ys.map (Sum.inl : Int → Key)) ∈ kvs.map (·.1) ↔ ys ∈ yss.take i := by
        rw [hk]
        constructor
        · intro z
          obtain ⟨m, hm, e⟩ := List.mem_map.mp z
          rw [← inj _ _ e]; exact hm
        · intro z; exact List.mem_map.mpr ⟨ys, z, rfl⟩
      refine ⟨_, rfl, _, rfl, d, _, rfl, DGet.t (k := ys.map Sum.inl) hD hbk, _, rfl, ?_⟩
      refine iteS (fun hv => ?_) (fun hv => ?_)
      · have hin := hmem.mp (valV_iff.mp hv)
        rw [if_pos hin] at hf
        refine ⟨_, rfl, ?_⟩
        exact k2 _ _ _ hf sx hby
      · have hnot := valV_not hv
        rw [if_neg (fun z => hnot (hmem.mpr z))] at hf
        have hlen : kvs.length < sizeLine := by
          have e : (kvs.map (·.1)).length = ((yss.take i).map (fun ys => ys.map (Sum.inl : Int → Key))).length := by rw [hk]
          rw [List.length_map, List.length_map] at e
          have := List.length_take_le i yss
          have := (List.getElem?_eq_some_iff.mp hn).1
          exact szl (by omega)
        refine ⟨_, rfl, _, rfl, d, _, rfl, DPut.t (k := ys.map Sum.inl) hD hbk hlen, ?_⟩
        have npd : p ≠ d := ne_of hP hD (by intro z; cases z)
        refine ⟨_, _, rfl, ?_, ?_, upd_same, ?_, ?_, hf⟩
        · rw [upd_ne npd]; exact hP
        · refine Paired.mapP hT' fun c z e => ?_
          rw [upd_ne (ne_of e hD (by intro z; cases z))]; exact e
        · rw [putK_new hnot, List.map_append, hk, List.take_succ, hn, List.map_append]; rfl
        · intro b o e
          rw [upd_ne (ne_of_none e hd)]
          exact sx _ _ e
    · rintro σ H' ⟨v, kvs, rfl, hP, hT', hD, hk, sx, hf⟩
      rw [List.length_map, len, List.drop_length] at hf
      exact k1 hf _ sx
/-! ### the law's own -/
def sp_well (K : PySem.W.Frag) : Sp := fun vs H Q _ => ∃ (a : Addr) (ns : List Int), vs = [.ref a] ∧ SqL K H a (ns.map V.int) ∧ ns.length ≤ 63 ∧ ∀ p c H', H p = none → Same H H' → WellAt H' p c 0 → Q (.ref p) H'
theorem ok_law_well (T : Txt K mg) : FnOk P w K mg base CX0 1 (He.fAd K ("_law_well", none)) (fdOf K ("_law_well", none)) ["script"] (sp_well K) := by
  refine ok0 T.d_law_well sc_law_well (fun vs H Q E h => ?_) (fun cdv A outer s H vs Q E hr h => ?_)
  · obtain ⟨a, ns, rfl, _⟩ := h
    rfl
  · obtain ⟨a, ns, rfl, hS, hz, k⟩ := h
    have nd := sc_law_well.nd
    refine ⟨_, (pss_one (ps_ret (pe_lst (pa_cons (pe_lc (own := [("cell", 1)]) rfl nd (pi_list (pe_slice sl_list (pv 0) po_none (po_some pe_int))) (blk_k (by kernel_rfl)) (fun _ _ _ _ _ => (pgn 1 nd)) (fun _ _ _ _ _ => pts_nil) (fun _ _ _ _ _ => (pe_callTy call_int1 rfl T.n_int (by decide +kernel) (pa_cons (pv 1) pa_nil)))) (pa_cons pe_int (pa_cons pe_int pa_nil)))))), ?_⟩
    refine ⟨_, rfl, _, rfl, _, _, rfl, hS, fun p hp => ?_⟩
    rw [cut_map]
    generalize hm : (ns.drop (HT.sIx ns.length 0 none)).take (HT.sIx ns.length ns.length (some 60) - HT.sIx ns.length 0 none) = ms
    have lm : ms.length ≤ 63 := by
      rw [← hm, List.length_take, List.length_drop]; omega
    have s1 := same_new (o := .lst (ms.map V.int)) hp
    refine ⟨p, rfl, ⟨_, SqL.of upd_same⟩, fun D hD => lc_pureL (fun x => some x) (SqL.of upd_same) hD (by rw [List.length_map]; omega) (fun x H' Qk Qs hx sx hk1 hk2 => ?_) (fun H' s2 e => ?_)⟩
    · obtain ⟨i, _, rfl⟩ := List.mem_map.mp hx
      exact ⟨rfl, _, rfl, .inl ⟨_, rfl, hk1 _ _ rfl (Same.refl _)⟩⟩
    · rw [fm_some (fun x => x), List.map_id'] at e
      refine ⟨by show 3 ≤ sizeLine; decide, fun q hq => ?_⟩
      have s3 := same_new (o := .lst [V.ref D, V.int 0, V.int 0]) hq
      exact k q D _ ((s1.trans s2).free hq) ((s1.trans s2).trans s3) ⟨ms, 0, 0, upd_same, s3 _ _ e, lm, by omega, by omega, fun z => by rw [z, hq] at e; cases e⟩
def sp_of : Sp := fun vs H Q _ => ∃ (a c s : Addr) (n : Nat) (xs : List V), vs = [.ref a, .ref s] ∧ WellAt H a c n ∧ n < 1000000 ∧ H s = some (.lst xs) ∧ s ≠ a ∧ 0 < xs.length ∧ xs.length ≤ 100000 ∧
  ∀ (x : V) (H' : Hp), x ∈ xs → Kp a H H' → WellAt H' a c (n + 1) → Q x H'
theorem ok_law_of (T : Txt K mg) : FnOk P w K mg base CX0 2 (He.fAd K ("_law_of", none)) (fdOf K ("_law_of", none)) ["well", "some"] sp_of := by
  refine ok0 T.d_law_of sc_law_of (fun vs H Q E h => ?_) (fun cdv A outer s H vs Q E hr h => ?_)
  · obtain ⟨a, c, s, n, xs, rfl, _⟩ := h
    rfl
  · obtain ⟨a, c, b, n, xs, rfl, hw, hn, hb, nb, h0, h1, k⟩ := h
    refine ⟨_, (pss_one (ps_ret (pe_ix ix_list (pv 1) (pcall (ok_law_pail T) hr (by decide) T.c_law_pail pass0 (pa_cons (pv 0) (pa_cons (pe_callB call_len_seq rfl T.n_len (by decide +kernel) (pa_cons (pv 1) pa_nil)) pa_nil))) (fun _ _ => rfl)))), ?_⟩
    refine ⟨_, rfl, _, rfl, _, rfl, _, _, rfl, .inl (SqL.of hb), a, c, _, n, rfl, hw, hn, by omega, by omega, fun r H' r0 r1 kp hw' => ?_⟩
    obtain ⟨v, hv⟩ : ∃ v, xs[r.toNat]? = some v := ⟨_, List.getElem?_eq_getElem (by omega)⟩
    exact ⟨b, xs, r, v, rfl, rfl, SqL.of (kp _ _ nb hb), at_nat (j := r.toNat) (by omega) hv, k _ _ (List.mem_of_getElem? hv) kp hw'⟩

/-- what _law_odd draws -/
inductive OddAt (a : Addr) (H : Hp) : V → Prop where
  | bl (b : Bool) : OddAt a H (.bl b)
  | non : OddAt a H .non
  | str (z : Str) : OddAt a H (.str z)
  | dk {p : Addr} {kvs : List (Key × V)} (n : p ≠ a) (h : H p = some (.dK kvs)) : OddAt a H (.ref p)
  | l1 {p : Addr} (n : p ≠ a) (h : H p = some (.lst [.int 1])) : OddAt a H (.ref p)
  | lt {p : Addr} (n : p ≠ a) (h : H p = some (.lst [.bl true])) : OddAt a H (.ref p)
  | t1 {p : Addr} (n : p ≠ a) (h : H p = some (.tup [.int 1])) : OddAt a H (.ref p)
  | t2 {p : Addr} (n : p ≠ a) (h : H p = some (.tup [.str "0", .int 0])) : OddAt a H (.ref p)
theorem OddAt.kp {a : Addr} {H H' : Hp} {x : V} (h : OddAt a H x) (k : Kp a H H') : OddAt a H' x := by
  cases h with
  | bl b => exact .bl b
  | non => exact .non
  | str z => exact .str z
  | dk n h => exact .dk n (k _ _ n h)
  | l1 n h => exact .l1 n (k _ _ n h)
  | lt n h => exact .lt n (k _ _ n h)
  | t1 n h => exact .t1 n (k _ _ n h)
  | t2 n h => exact .t2 n (k _ _ n h)
theorem OddAt.kn {a : Addr} {H : Hp} {x : V} (h : OddAt a H x) : isI x = false ∧ ∃ b3 b4, KnV K H x b3 b4 := by
  cases h with
  | bl b => exact ⟨rfl, _, _, kn_bl b⟩
  | non => exact ⟨rfl, _, _, kn_non⟩
  | str z => exact ⟨rfl, _, _, kn_str z⟩
  | dk n h => exact ⟨rfl, _, _, kn_dK h⟩
  | l1 n h => exact ⟨rfl, _, _, kn_lst h⟩
  | lt n h => exact ⟨rfl, _, _, kn_lst h⟩
  | t1 n h => exact ⟨rfl, _, _, kn_tup h⟩
  | t2 n h => exact ⟨rfl, _, _, kn_tup h⟩
theorem ne_a {a c p : Addr} {H H1 : Hp} {n : Nat} (hw : WellAt H a c n) (s : Same H H1) (hp : H1 p = none) : p ≠ a := fun z => by
  obtain ⟨cells, t, l, h1, _⟩ := hw
  rw [z, s _ _ h1] at hp
  cases hp
theorem ne_c {a c p : Addr} {H H1 : Hp} {n : Nat} (hw : WellAt H a c n) (s : Same H H1) (hp : H1 p = none) : p ≠ c := fun z => by
  obtain ⟨cells, t, l, h1, h2, _⟩ := hw
  rw [z, s _ _ h2] at hp
  cases hp
def sp_odd : Sp := fun vs H Q _ => ∃ (a c : Addr) (n : Nat), vs = [.ref a] ∧ WellAt H a c n ∧ n < 1000000 ∧ ∀ (x : V) (H' : Hp), OddAt a H' x → Kp a H H' → WellAt H' a c (n + 1) → Q x H'
theorem ok_law_odd (T : Txt K mg) : FnOk P w K mg base CX0 3 (He.fAd K ("_law_odd", none)) (fdOf K ("_law_odd", none)) ["well"] sp_odd := by
  refine ok0 T.d_law_odd sc_law_odd (fun vs H Q E h => ?_) (fun cdv A outer s H vs Q E hr h => ?_)
  · obtain ⟨a, c, n, rfl, _⟩ := h
    rfl
  · obtain ⟨a, c, n, rfl, hw, hn, k⟩ := h
    refine ⟨_, (pss_one (ps_ret (pcall (ok_law_of T) hr (by decide) T.c_law_of pass0 (pa_cons (pv 0) (pa_cons (pe_lst (pa_cons pe_bl (pa_cons pe_bl (pa_cons pe_non (pa_cons pe_str (pa_cons (pe_lst (pa_cons pe_int pa_nil)) (pa_cons (pe_tup (pa_cons pe_int pa_nil)) (pa_cons pe_dnewK (pa_cons pe_str (pa_cons (pe_cmpR op_lt (pe_op op_pow pe_int pe_int) pe_int (nomark _)) (pa_cons (pe_lst (pa_cons pe_bl pa_nil)) (pa_cons (pe_disp (pps_cons pe_int pe_int pps_nil) (by rfl) (by rfl) (fun z => by cases z) (by decide)) (pa_cons (pe_tup (pa_cons pe_str (pa_cons pe_int pa_nil))) pa_nil))))))))))))) pa_nil))))), ?_⟩
    refine ⟨_, rfl, by show 1 ≤ sizeLine; decide, fun p1 h1 => ?_⟩
    have n1 := ne_a hw (Same.refl _) h1
    have s1 := same_new (o := .lst [V.int 1]) h1
    have e1 : (upd H p1 (.lst [V.int 1])) p1 = some (.lst [V.int 1]) := upd_same
    generalize upd H p1 (.lst [V.int 1]) = H1 at s1 e1 ⊢
    refine ⟨by show 1 ≤ sizeLine; decide, fun p2 h2 => ?_⟩
    have n2 := ne_a hw s1 h2
    have s2 := same_new (o := .tup [V.int 1]) h2
    have e2 : (upd H1 p2 (.tup [V.int 1])) p2 = some (.tup [V.int 1]) := upd_same
    generalize upd H1 p2 (.tup [V.int 1]) = H2 at s2 e2 ⊢
    intro p3 h3
    have n3 := ne_a hw (s1.trans s2) h3
    have s3 := same_new (o := .dK []) h3
    have e3 : (upd H2 p3 (.dK [])) p3 = some (.dK []) := upd_same
    generalize upd H2 p3 (.dK []) = H3 at s3 e3 ⊢
    refine ⟨_, _, rfl, rfl, ⟨by decide, by decide, by decide⟩, _, _, rfl, rfl, ?_⟩
    refine ⟨by show 1 ≤ sizeLine; decide, fun p4 h4 => ?_⟩
    have n4 := ne_a hw ((s1.trans s2).trans s3) h4
    have s4 := same_new (o := .lst [V.bl true]) h4
    have e4 : (upd H3 p4 (.lst [V.bl true])) p4 = some (.lst [V.bl true]) := upd_same
    generalize upd H3 p4 (.lst [V.bl true]) = H4 at s4 e4 ⊢
    intro p5 h5
    have n5 := ne_a hw (((s1.trans s2).trans s3).trans s4) h5
    refine ⟨upd_same, [(Sum.inl 1, V.int 1)], rfl, by decide, ?_⟩
    have s5 : Same H4 (upd (upd H4 p5 (.dK [])) p5 (.dK (mergeK [] [(Sum.inl 1, V.int 1)]))) := by rw [upd_upd]; exact same_new h5
    have e5 : (upd (upd H4 p5 (.dK [])) p5 (.dK (mergeK [] [(Sum.inl 1, V.int 1)]))) p5 = some (.dK (mergeK [] [(Sum.inl 1, V.int 1)])) := upd_same
    generalize upd (upd H4 p5 (.dK [])) p5 (.dK (mergeK [] [(Sum.inl 1, V.int 1)])) = H5 at s5 e5 ⊢
    refine ⟨by show 2 ≤ sizeLine; decide, fun p6 h6 => ?_⟩
    have n6 := ne_a hw ((((s1.trans s2).trans s3).trans s4).trans s5) h6
    have s6 := same_new (o := .tup [V.str "0", V.int 0]) h6
    have e6 : (upd H5 p6 (.tup [V.str "0", V.int 0])) p6 = some (.tup [V.str "0", V.int 0]) := upd_same
    generalize upd H5 p6 (.tup [V.str "0", V.int 0]) = H6 at s6 e6 ⊢
    refine ⟨by show 12 ≤ sizeLine; decide, fun p7 h7 => ?_⟩
    have s06 := ((((s1.trans s2).trans s3).trans s4).trans s5).trans s6
    have n7 := ne_a hw s06 h7
    have s7 := same_new (o := .lst [V.bl true, V.bl false, V.non, V.str "1", V.ref p1, V.ref p2, V.ref p3, V.str "", V.bl (decide ((10 : Int) ^ (3 : Int).toNat < 7)), V.ref p4, V.ref p5, V.ref p6]) h7
    have s17 := ((((s2.trans s3).trans s4).trans s5).trans s6).trans s7
    have s27 := (((s3.trans s4).trans s5).trans s6).trans s7
    refine ⟨a, c, p7, n, _, rfl, hw.kp (s06.trans s7), hn, upd_same, n7, by show 0 < 12; decide, by show 12 ≤ 100000; decide, fun x H' hx kp hw' => ?_⟩
    refine k x H' ?_ ((kp_same (s06.trans s7)).trans kp) hw'
    simp only [List.mem_cons, List.mem_nil_iff, or_false] at hx
    rcases hx with rfl | rfl | rfl | rfl | rfl | rfl | rfl | rfl | rfl | rfl | rfl | rfl
    · exact .bl _
    · exact .bl _
    · exact .non
    · exact .str _
    · exact .l1 n1 (kp _ _ n1 (s17 _ _ e1))
    · exact .t1 n2 (kp _ _ n2 (s27 _ _ e2))
    · exact .dk n3 (kp _ _ n3 ((((s4.trans s5).trans s6).trans s7) _ _ e3))
    · exact .str _
    · exact .bl _
    · exact .lt n4 (kp _ _ n4 (((s5.trans s6).trans s7) _ _ e4))
    · exact .dk n5 (kp _ _ n5 ((s6.trans s7) _ _ e5))
    · exact .t2 n6 (kp _ _ n6 (s7 _ _ e6))
def sp_right (m : Nat) : Sp := fun vs H Q _ => ∃ (a c : Addr) (n : Nat), vs = [.ref a] ∧ WellAt H a c n ∧ n < 100000 ∧ ∀ (H' : Hp), Kp a H H' → WellAt H' a c (n + m) → Q (.bl true) H'
theorem ok_law_bounds_right (T : Txt K mg) : FnOk P w K mg base CX0 4 (He.fAd K ("_law_bounds_right", none)) (fdOf K ("_law_bounds_right", none)) ["well"] (sp_right 10) := by
  refine ok0 T.d_law_bounds_right sc_law_bounds_right (fun vs H Q E h => ?_) (fun cdv A outer s H vs Q E hr h => ?_)
  · obtain ⟨a, c, n, rfl, _⟩ := h
    rfl
  · obtain ⟨a, c, n, rfl, hw, hn, k⟩ := h
    have nd := sc_law_bounds_right.nd
    refine ⟨_, (pss_cons (ps_par (i := 1) (j := 2) rfl nd rfl rfl (by decide) rfl rfl (pa_cons (pcall (ok_law_of T) hr (by decide) T.c_law_of pass0 (pa_cons (pv 0) (pa_cons (pe_lst (pa_cons pe_int (pa_cons pe_int (pa_cons (pe_un un_neg pe_int) (pa_cons (pe_op op_pow pe_int pe_int) (pa_cons (pe_un un_neg (pe_op op_pow pe_int pe_int)) (pa_cons (pcall (ok_law_pail T) hr (by decide) T.c_law_pail pass0 (pa_cons (pv 0) (pa_cons pe_int pa_nil))) pa_nil))))))) pa_nil))) (pa_cons (pcall (ok_law_odd T) hr (by decide) T.c_law_odd pass0 (pa_cons (pv 0) pa_nil)) pa_nil)) (by rfl))
    (pss_cons (ps_if (PW.pt (pw_or (pt_cmpR (op_neD hr.units) (pe_lst (pa_cons (pcallN0 (ok_is_integer T) hr (by decide) T.c_is_integer T.k_is_integer_0_value pass0 (pk_cons (pv 1) pk_nil)) (pa_cons (pcall (ok_is_integer T) hr (by decide) T.c_is_integer pass0 (pa_cons (pv 2) pa_nil)) pa_nil))) (pe_lst (pa_cons pe_bl (pa_cons pe_bl pa_nil))) (nomark _)) (pw_or (pt_val (pcall (ok_is_within T) hr (by decide) T.c_is_within pass0 (pa_cons (pv 2) (pa_cons pe_non (pa_cons pe_non pa_nil))))) (pw_or1 (pt_val (pcallN (ok_is_within T) hr (by decide) T.c_is_within T.k_is_within_1_least_most pass0 (pa_cons (pv 2) pa_nil) (pk_cons pe_int (pk_cons pe_int pk_nil)))))))) (pss_one (ps_ret pe_bl)) pss_nil)
    (pss_cons (ps_par (i := 3) (j := 4) rfl nd rfl rfl (by decide) rfl rfl (pa_cons (pe_op op_sub (pcall (ok_law_pail T) hr (by decide) T.c_law_pail pass0 (pa_cons (pv 0) (pa_cons pe_int pa_nil))) pe_int) (pa_cons (pe_op op_sub (pcall (ok_law_pail T) hr (by decide) T.c_law_pail pass0 (pa_cons (pv 0) (pa_cons pe_int pa_nil))) pe_int) pa_nil)) (by rfl))
    (pss_cons (ps_setN 5 nd (pe_lst (pa_cons (pcall (ok_is_within T) hr (by decide) T.c_is_within pass0 (pa_cons (pv 1) (pa_cons (pe_op op_add (pv 1) (pv 3)) (pa_cons (pe_op op_add (pv 1) (pv 4)) pa_nil)))) (pa_cons (pcallN0 (ok_is_within T) hr (by decide) T.c_is_within T.k_is_within_0_value_least_most pass0 (pk_cons (pv 1) (pk_cons pe_non (pk_cons (pe_op op_add (pv 1) (pv 4)) pk_nil)))) pa_nil))))
    (pss_cons (ps_expr (pe_bm PySem.F.plainAttrs_list PySem.F.slot_list_append PySem.F.type_list_append mt_append (pv 5) (pa_cons (pcall (ok_is_within T) hr (by decide) T.c_is_within pass0 (pa_cons (pv 1) (pa_cons (pe_op op_add (pv 1) (pv 3)) (pa_cons pe_non pa_nil)))) pa_nil)))
    (pss_one (ps_ret (pe_and (pe_cmpR (op_eqD hr.units) (pv 5) (pe_lst (pa_cons (pe_chain op_le op_le (pv 3) pe_int (pv 4)) (pa_cons (pe_cmpR op_le pe_int (pv 4) (nomark _)) (pa_cons (pe_cmpR op_le (pv 3) pe_int (nomark _)) pa_nil)))) (nomark _)) (pe_one (pe_cmpR op_isBl (pcall (ok_is_within T) hr (by decide) T.c_is_within pass0 (pa_cons (pv 1) (pa_cons pe_non (pa_cons pe_non pa_nil)))) pe_bl (nomark _))))))))))), ?_⟩

    refine ⟨_, rfl, _, rfl, _, _, rfl, rfl, ⟨by decide, by decide, by decide⟩, _, _, rfl, rfl, ⟨by decide, by decide, by decide⟩, _, rfl, _, rfl, a, c, _, n, rfl, hw, by omega, by omega, by omega, fun r H1 r0 r1 k1 hw1 => ?_⟩
    refine ⟨by show 6 ≤ sizeLine; decide, fun p hp => ?_⟩
    have np := ne_a hw1 (Same.refl _) hp
    generalize hl : ([V.int 0, V.int 1, V.int (-1), V.int (10 ^ (30 : Int).toNat), V.int (-(10 ^ (30 : Int).toNat)), V.int r] : List V) = l
    have s1 : Same H1 (upd H1 p (.lst l)) := same_new hp
    have hlen : l.length = 6 := by rw [← hl]; rfl
    refine ⟨a, c, p, n + 1, l, rfl, hw1.kp s1, by omega, ?_, np, by omega, by omega, fun x H2 hx k2 hw2 => ?_⟩
    · rw [← hl]; exact upd_same
    obtain ⟨i, rfl⟩ : ∃ i, x = V.int i := by
      rw [← hl] at hx
      simp only [List.mem_cons, List.mem_nil_iff, or_false] at hx
      rcases hx with h | h | h | h | h | h <;> exact ⟨_, h⟩
    refine ⟨_, rfl, a, c, n + 2, rfl, hw2, by omega, fun y H3 hy k3 hw3 => ⟨_, _, rfl, ?_⟩⟩
    have K3 : Kp a H H3 := ((k1.trans (kp_same s1)).trans (by rw [← hl] at k2 ⊢; exact k2)).trans k3
    obtain ⟨yi, b3, b4, kny⟩ := hy.kn
    -- the two tests of integers
    refine ⟨_, rfl, rfl, rfl, .int i, false, false, rfl, kn_int i, fun H4 s4 => ?_⟩
    refine ⟨_, rfl, y, b3, b4, rfl, kny.same s4, fun H5 s5 => ⟨by show 2 ≤ sizeLine; decide, fun p5 h5 => ⟨by show 2 ≤ sizeLine; decide, fun p6 h6 => ?_⟩⟩⟩
    have t5 := same_new (o := .lst [V.bl (isI (.int i)), V.bl (isI y)]) h5
    have t6 := same_new (o := .lst [V.bl true, V.bl false]) h6
    refine ⟨.list [.bool (isI (.int i)), .bool (isI y)], .list [.bool true, .bool false], .lst (SqL.of (t6 _ _ upd_same)) (.cons (.bl _) (.cons (.bl _) .nil)), .lst (SqL.of upd_same) (.cons (.bl _) (.cons (.bl _) .nil)), rfl, rfl, _, rfl, ?_⟩
    have s36 := ((s4.trans s5).trans t5).trans t6
    rw [yi] at s36 ⊢
    refine iteF ?_
    refine ⟨_, rfl, y, .non, .non, b3, b4, rfl, kny.same s36, .inl rfl, .inl rfl, fun H7 s7 => ⟨_, rfl, ?_⟩⟩
    rw [within_not yi]
    refine iteF ?_
    refine ⟨_, rfl, rfl, rfl, y, .int 0, .int 1, b3, b4, rfl, kny.same (s36.trans s7), .inr ⟨_, rfl⟩, .inr ⟨_, rfl⟩, fun H8 s8 => ⟨_, rfl, ?_⟩⟩
    rw [within_not yi]
    refine iteF ?_
    -- bounds
    have s38 := (s36.trans s7).trans s8
    refine ⟨_, rfl, a, c, _, n + 3, rfl, hw3.kp s38, by omega, by decide, by decide, fun lo H9 l0 l1 k9 hw9 => ?_⟩
    refine ⟨_, _, rfl, rfl, _, rfl, a, c, _, n + 4, rfl, hw9, by omega, by decide, by decide, fun hi H10 h0 h1 k10 hw10 => ⟨_, _, rfl, rfl, _, _, rfl, ?_⟩⟩
    have K10 : Kp a H H10 := ((K3.trans (kp_same s38)).trans k9).trans k10
    refine ⟨_, rfl, _, rfl, _, rfl, _, _, rfl, rfl, _, rfl, _, rfl, _, _, rfl, rfl, .int i, _, _, false, false, rfl, kn_int i, .inr ⟨_, rfl⟩, .inr ⟨_, rfl⟩, fun H11 s11 => ?_⟩
    refine ⟨_, rfl, _, rfl, _, rfl, _, _, rfl, rfl, rfl, rfl, .int i, _, _, false, false, rfl, kn_int i, .inl rfl, .inr ⟨_, rfl⟩, fun H12 s12 => ⟨by show 2 ≤ sizeLine; decide, fun q hq => ?_⟩⟩
    have nq := ne_a hw10 (s11.trans s12) hq
    have eA : within (.int i) (.int (i + (lo - 2))) (.int (i + (hi - 2))) = (decide (lo - 2 ≤ 0) && decide (0 ≤ hi - 2)) := by
      show (decide (i + (lo - 2) ≤ i) && decide (i ≤ i + (hi - 2))) = _
      rw [dec_eq (show i + (lo - 2) ≤ i ↔ lo - 2 ≤ 0 by omega), dec_eq (show i ≤ i + (hi - 2) ↔ 0 ≤ hi - 2 by omega)]
    have eB : within (.int i) .non (.int (i + (hi - 2))) = decide (0 ≤ hi - 2) := by
      show (true && decide (i ≤ i + (hi - 2))) = _
      rw [dec_eq (show i ≤ i + (hi - 2) ↔ 0 ≤ hi - 2 by omega), Bool.true_and]
    have eC : within (.int i) (.int (i + (lo - 2))) .non = decide (lo - 2 ≤ 0) := by
      show (decide (i + (lo - 2) ≤ i) && true) = _
      rw [dec_eq (show i + (lo - 2) ≤ i ↔ lo - 2 ≤ 0 by omega), Bool.and_true]
    generalize hA : V.bl (within (.int i) (.int (i + (lo - 2))) (.int (i + (hi - 2)))) = vA
    generalize hB : V.bl (within (.int i) .non (.int (i + (hi - 2)))) = vB
    rw [eA] at hA
    rw [eB] at hB
    have s13 := same_new (o := .lst [vA, vB]) hq
    have eq13 : (upd H12 q (.lst [vA, vB])) q = some (.lst [vA, vB]) := upd_same
    have S13 := (s11.trans s12).trans s13
    generalize upd H12 q (.lst [vA, vB]) = H13 at s13 eq13 S13 ⊢
    refine ⟨_, rfl, .inl ⟨rfl, _, SqL.of eq13⟩, _, rfl, _, rfl, _, rfl, _, _, rfl, rfl, .int i, _, .non, false, false, rfl, kn_int i, .inr ⟨_, rfl⟩, .inl rfl, fun H14 s14 => ?_⟩
    refine ⟨q, _, _, rfl, rfl, s14 _ _ eq13, by show 2 < sizeLine; decide, ?_⟩
    have eq15 : (upd H14 q (.lst ([vA, vB] ++ [V.bl (within (.int i) (.int (i + (lo - 2))) .non)]))) q = some (.lst ([vA, vB] ++ [V.bl (within (.int i) (.int (i + (lo - 2))) .non)])) := upd_same
    have K15 : Kp a H (upd H14 q (.lst ([vA, vB] ++ [V.bl (within (.int i) (.int (i + (lo - 2))) .non)]))) := fun b o nb e => by
      have e10 := K10 _ _ nb e
      rw [upd_ne (ne_of_none (s12 _ _ (s11 _ _ e10)) hq)]
      exact s14 _ _ (S13 _ _ e10)
    have nqc := ne_c hw10 (s11.trans s12) hq
    have hw15 : WellAt (upd H14 q (.lst ([vA, vB] ++ [V.bl (within (.int i) (.int (i + (lo - 2))) .non)]))) a c (n + 5) := ((hw10.kp S13).kp s14).other nq nqc
    rw [eC, ← hA, ← hB] at eq15 K15 hw15 ⊢
    generalize upd H14 q (.lst ([V.bl (decide (lo - 2 ≤ 0) && decide (0 ≤ hi - 2)), V.bl (decide (0 ≤ hi - 2))] ++ [V.bl (decide (lo - 2 ≤ 0))])) = H15 at eq15 K15 hw15 ⊢
    refine ⟨_, rfl, _, rfl, _, _, rfl, rfl, _, rfl, ?_⟩
    refine iteS (fun hb => ⟨_, rfl, _, _, rfl, rfl, ?_⟩) (fun hb => ?_)
    all_goals
      refine ⟨_, rfl, _, _, rfl, rfl, _, rfl, _, _, rfl, rfl, by show 3 ≤ sizeLine; decide, fun p9 h9 => ?_⟩
      refine ⟨.list [.bool _, .bool _, .bool _], .list [.bool _, .bool _, .bool _], .lst (SqL.of (same_new h9 _ _ eq15)) (.cons (.bl _) (.cons (.bl _) (.cons (.bl _) .nil))), .lst (SqL.of upd_same) (.cons (.bl _) (.cons (.bl _) (.cons (.bl _) .nil))), rfl, rfl, true, ?_, iteT ?_⟩
      · simp [PyData.eqv, PyData.eqvAll, hb]
      refine ⟨_, rfl, .int i, .non, .non, false, false, rfl, kn_int i, .inl rfl, .inl rfl, fun H16 s16 => ⟨_, _, rfl, rfl, ?_⟩⟩
      exact k _ (K15.trans (kp_same ((same_new h9).trans s16))) ((hw15.kp ((same_new h9).trans s16)).mono (by omega))

theorem knall_ints {H : Hp} (ns : List Int) : KnAll K H (ns.map V.int) := fun x hx => by
  obtain ⟨i, _, rfl⟩ := List.mem_map.mp hx
  exact ⟨_, _, kn_int i⟩
theorem allI_ints (ns : List Int) : allI (ns.map V.int) = true := by
  unfold allI
  rw [List.all_map]
  exact List.all_eq_true.mpr fun _ _ => rfl
theorem allI_odd {x : V} (xs ys : List V) (h : isI x = false) : allI (xs ++ [x] ++ ys) = false := by
  unfold allI
  rw [List.all_append, List.all_append]
  show ((_ && (isI x && true)) && _) = false
  rw [h, Bool.false_and, Bool.and_false, Bool.false_and]
theorem ok_law_rows_right (T : Txt K mg) : FnOk P w K mg base CX0 4 (He.fAd K ("_law_rows_right", none)) (fdOf K ("_law_rows_right", none)) ["well"] (sp_right 20) := by
  refine ok0 T.d_law_rows_right sc_law_rows_right (fun vs H Q E h => ?_) (fun cdv A outer s H vs Q E hr h => ?_)
  · obtain ⟨a, c, n, rfl, _⟩ := h
    rfl
  · obtain ⟨a, c, n, rfl, hw, hn, k⟩ := h
    have nd := sc_law_rows_right.nd
    refine ⟨_, (pss_cons (ps_par (i := 1) (j := 2) rfl nd rfl rfl (by decide) rfl rfl (pa_cons (pcall (ok_law_odd T) hr (by decide) T.c_law_odd pass0 (pa_cons (pv 0) pa_nil)) (pa_cons (pe_lc (own := [("turn", 4)]) rfl nd (pi_range1 rfl T.n_range (pa_cons (pcall (ok_law_pail T) hr (by decide) T.c_law_pail pass0 (pa_cons (pv 0) (pa_cons pe_int pa_nil))) pa_nil)) (blk_k (by kernel_rfl)) (fun _ _ _ _ _ => (pgn 4 nd)) (fun _ _ _ _ _ => pts_nil) (fun _ _ _ _ _ => (pe_op op_sub (pcall (ok_law_pail T) hr (by decide) T.c_law_pail pass0 (pa_cons (pv 0) (pa_cons pe_int pa_nil))) pe_int))) pa_nil)) (by rfl))
    (pss_cons (ps_setN 3 nd (pcall (ok_law_pail T) hr (by decide) T.c_law_pail pass0 (pa_cons (pv 0) (pa_cons (pe_op op_add (pe_callB call_len_seq rfl T.n_len (by decide +kernel) (pa_cons (pv 2) pa_nil)) pe_int) pa_nil))))
    (pss_cons (ps_if (PW.pt (pw_or (pt_cmpR op_notBl (pcallN0 (ok_is_numbers T) hr (by decide) T.c_is_numbers T.k_is_numbers_0_value pass0 (pk_cons (pv 2) pk_nil)) pe_bl (nomark _)) (pw_or (pt_cmpR op_notBl (pcall (ok_is_numbers T) hr (by decide) T.c_is_numbers pass0 (pa_cons (pe_callTy call_tuple_of rfl T.n_tuple (by decide +kernel) (pa_cons (pv 2) pa_nil)) pa_nil)) pe_bl (nomark _)) (pw_or1 (pt_cmpR op_notBl (pcall (ok_is_numbers T) hr (by decide) T.c_is_numbers pass0 (pa_cons (pe_lst pa_nil) pa_nil)) pe_bl (nomark _)))))) (pss_one (ps_ret pe_bl)) pss_nil)
    (pss_cons (ps_if (PW.pt (pw_or (pt_val (pcall (ok_is_numbers T) hr (by decide) T.c_is_numbers pass0 (pa_cons (pe_op op_cat (pe_op op_cat (pe_slice sl_list (pv 2) po_none (po_some (pv 3))) (pe_lst (pa_cons (pv 1) pa_nil))) (pe_slice sl_list (pv 2) (po_some (pv 3)) po_none)) pa_nil))) (pw_or (pt_val (pcall (ok_is_numbers T) hr (by decide) T.c_is_numbers pass0 (pa_cons pe_str pa_nil))) (pw_or (pt_val (pcall (ok_is_numbers T) hr (by decide) T.c_is_numbers pass0 (pa_cons (pe_disp (pps_cons pe_int pe_int pps_nil) (by rfl) (by rfl) (fun z => by cases z) (by decide)) pa_nil))) (pw_or1 (pt_val (pcall (ok_is_numbers T) hr (by decide) T.c_is_numbers pass0 (pa_cons pe_non pa_nil)))))))) (pss_one (ps_ret pe_bl)) pss_nil)
    (pss_one (ps_ret (pe_cmpR op_eq (pcall (ok_is_numbers T) hr (by decide) T.c_is_numbers pass0 (pa_cons (pv 1) pa_nil)) (pe_and (pe_callB call_isiT rfl T.n_isinstance (by decide +kernel) (pa_cons (pv 1) (pa_cons (pe_tup (pa_cons (pe_bltn (v := .ty "list") rfl T.n_list (by decide +kernel) rfl) (pa_cons (pe_bltn (v := .ty "tuple") rfl T.n_tuple (by decide +kernel) rfl) pa_nil))) pa_nil))) (pe_and (pe_cmpR (op_inTD (room65 hr)) (pv 1) (pe_tup (pa_cons (pe_lst (pa_cons pe_int pa_nil)) (pa_cons (pe_tup (pa_cons pe_int pa_nil)) pa_nil))) (by rfl)) (pe_one (pe_cmpR op_notIB (pe_ix ix_seq (pv 1) pe_int (fun _ _ => rfl)) pe_bl (nomark _))))) (nomark _)))))))), ?_⟩
    refine ⟨_, rfl, a, c, n, rfl, hw, by omega, fun y H1 hy1 k1 hw1 => ?_⟩
    refine ⟨_, rfl, a, c, _, n + 1, rfl, hw1, by omega, by decide, by decide, fun m H2 m0 m1 k2 hw2 => ⟨_, rfl, by omega, by omega, fun D hD => ?_⟩⟩
    have nD := ne_a hw2 (Same.refl _) hD
    have nDc := ne_c hw2 (Same.refl _) hD
    refine lc_range (lo := 0) (n := m.toNat) (fun i H' => ∃ ns : List Int, H' D = some (.lst (ns.map V.int)) ∧ ns.length = i ∧ Kp a H2 H' ∧ WellAt H' a c (n + 2 + i)) ⟨[], upd_same, rfl, kp_same (same_new hD), hw2.kp (same_new hD)⟩ (fun i H' hi ⟨ns, e1, e2, e3, e4⟩ => ?_) (fun H3 ⟨ns, e1, e2, e3, e4⟩ => ?_)
    · refine ⟨rfl, _, rfl, a, c, _, n + 2 + i, rfl, e4, by omega, by decide, by decide, fun r H4 r0 r1 k4 hw4 => ⟨_, _, rfl, rfl, _, k4 _ _ nD e1, ?_, ns ++ [r - 4], ?_, ?_, ?_, ?_⟩⟩
      · rw [List.length_map]; exact szl (by omega)
      · rw [List.map_append]; exact upd_same
      · rw [List.length_append, e2]; rfl
      · intro b o nb e
        rw [upd_ne (ne_of_none e hD)]
        exact k4 _ _ nb (e3 _ _ nb e)
      · exact hw4.other nD nDc
    · have K3 : Kp a H H3 := (k1.trans k2).trans e3
      refine ⟨_, _, rfl, ?_⟩
      refine ⟨_, rfl, _, rfl, _, _, rfl, .inl (SqL.of e1), _, _, rfl, rfl, a, c, _, n + 2 + m.toNat, rfl, e4, by omega, by omega, by rw [List.length_map]; omega, fun at_ H4 a0 a1 k4 hw4 => ?_⟩
      have eD := k4 _ _ nD e1
      obtain ⟨yi, b3, b4, kny⟩ := (hy1.kp ((k2.trans e3).trans k4)).kn
      -- is_numbers(value=row)
      refine ⟨_, rfl, rfl, rfl, .ref D, rfl, .inr ⟨D, _, rfl, .inl eD, knall_ints ns, by rw [List.length_map]; omega, fun H5 s5 => ⟨_, _, rfl, rfl, _, rfl, ?_⟩⟩⟩
      rw [allI_ints]
      refine iteF ?_
      refine ⟨_, rfl, _, _, rfl, .inl ⟨SqL.of (s5 _ _ eD), fun q hq => ?_⟩⟩
      have s6 := same_new (o := .tup (ns.map V.int)) hq
      refine ⟨.ref q, rfl, .inr ⟨q, _, rfl, .inr upd_same, knall_ints ns, by rw [List.length_map]; omega, fun H7 s7 => ⟨_, _, rfl, rfl, _, rfl, ?_⟩⟩⟩
      rw [allI_ints]
      refine iteF ?_
      refine ⟨Nat.zero_le _, fun q2 hq2 => ?_⟩
      have s8 := same_new (o := .lst []) hq2
      refine ⟨.ref q2, rfl, .inr ⟨q2, [], rfl, .inl upd_same, knall_ints [], by decide, fun H9 s9 => ⟨_, _, rfl, rfl, _, rfl, iteF ?_⟩⟩⟩
      have s49 := ((((s5.trans s6).trans s7).trans s8).trans s9)
      generalize hH9 : H9 = H9'
      rw [hH9] at s9 s49
      have eD9 := s49 _ _ eD
      -- an odd one put in
      refine ⟨_, rfl, _, rfl, _, rfl, _, _, rfl, SqL.of eD9, fun p1 h1 => ?_⟩
      rw [cut_map]
      generalize hm1 : (ns.drop (HT.sIx ns.length 0 none)).take (HT.sIx ns.length ns.length (some at_) - HT.sIx ns.length 0 none) = l1
      have z1 : l1.length ≤ 100000 := by rw [← hm1, List.length_take, List.length_drop]; omega
      have t1 := same_new (o := .lst (l1.map V.int)) h1
      have e1' : (upd H9' p1 (.lst (l1.map V.int))) p1 = some (.lst (l1.map V.int)) := upd_same
      generalize upd H9' p1 (.lst (l1.map V.int)) = G1 at t1 e1' ⊢
      refine ⟨_, rfl, by show 1 ≤ sizeLine; decide, fun p2 h2 => ?_⟩
      have t2 := same_new (o := .lst [y]) h2
      have e2' : (upd G1 p2 (.lst [y])) p2 = some (.lst [y]) := upd_same
      generalize upd G1 p2 (.lst [y]) = G2 at t2 e2' ⊢
      refine ⟨p1, p2, _, _, rfl, rfl, t2 _ _ e1', e2', by rw [List.length_map]; exact sz (by show l1.length + 1 ≤ 100000; rw [← hm1, List.length_take, List.length_drop]; omega), fun p3 h3 => ?_⟩
      have t3 := same_new (o := .lst (l1.map V.int ++ [y])) h3
      have e3' : (upd G2 p3 (.lst (l1.map V.int ++ [y]))) p3 = some (.lst (l1.map V.int ++ [y])) := upd_same
      generalize upd G2 p3 (.lst (l1.map V.int ++ [y])) = G3 at t3 e3' ⊢
      have u3 := (t1.trans t2).trans t3
      refine ⟨_, rfl, _, rfl, _, rfl, _, _, rfl, SqL.of (u3 _ _ eD9), fun p4 h4 => ?_⟩
      rw [cut_map]
      generalize hm2 : (ns.drop (HT.sIx ns.length 0 (some at_))).take (HT.sIx ns.length ns.length none - HT.sIx ns.length 0 (some at_)) = l2
      have z2 : l1.length + 1 + l2.length ≤ 100000 := by rw [← hm1, ← hm2, List.length_take, List.length_drop, List.length_take, List.length_drop]; omega
      have t4 := same_new (o := .lst (l2.map V.int)) h4
      have e4' : (upd G3 p4 (.lst (l2.map V.int))) p4 = some (.lst (l2.map V.int)) := upd_same
      generalize upd G3 p4 (.lst (l2.map V.int)) = G4 at t4 e4' ⊢
      have lenA : (l1.map V.int ++ [y]).length + (l2.map V.int).length ≤ 100000 := by
        rw [List.length_append, List.length_map, List.length_map]; exact z2
      refine ⟨p3, p4, _, _, rfl, rfl, t4 _ _ e3', e4', sz lenA, fun p5 h5 => ?_⟩
      have t5 := same_new (o := .lst (l1.map V.int ++ [y] ++ l2.map V.int)) h5
      have e5' : (upd G4 p5 (.lst (l1.map V.int ++ [y] ++ l2.map V.int))) p5 = some (.lst (l1.map V.int ++ [y] ++ l2.map V.int)) := upd_same
      generalize upd G4 p5 (.lst (l1.map V.int ++ [y] ++ l2.map V.int)) = G5 at t5 e5' ⊢
      have u5 := (u3.trans t4).trans t5
      have s45 := s49.trans u5
      refine ⟨.ref p5, rfl, .inr ⟨p5, _, rfl, .inl e5', fun x hx => ?_, by rw [List.length_append]; exact lenA, fun H6 s6 => ⟨_, rfl, ?_⟩⟩⟩
      · rcases List.mem_append.mp hx with hx | hx
        · rcases List.mem_append.mp hx with hx | hx
          · exact knall_ints l1 x hx
          · rw [List.mem_singleton.mp hx]; exact ⟨_, _, kny.same s45⟩
        · exact knall_ints l2 x hx
      rw [allI_odd _ _ yi]
      refine iteF ?_
      refine ⟨.str "12", rfl, .inl ⟨kn_str _, fun H7 s7 => ⟨_, rfl, iteF ?_⟩⟩⟩
      intro p8 h8
      refine ⟨upd_same, [(Sum.inl 1, V.int 2)], rfl, by decide, ?_⟩
      have t8 : Same H7 (upd (upd H7 p8 (.dK [])) p8 (.dK (mergeK [] [(Sum.inl 1, V.int 2)]))) := by rw [upd_upd]; exact same_new h8
      have e8 : (upd (upd H7 p8 (.dK [])) p8 (.dK (mergeK [] [(Sum.inl 1, V.int 2)]))) p8 = some (.dK (mergeK [] [(Sum.inl 1, V.int 2)])) := upd_same
      generalize upd (upd H7 p8 (.dK [])) p8 (.dK (mergeK [] [(Sum.inl 1, V.int 2)])) = G8 at t8 e8 ⊢
      refine ⟨.ref p8, rfl, .inl ⟨kn_dK e8, fun H10 s10 => ⟨_, rfl, iteF ?_⟩⟩⟩
      refine ⟨.non, rfl, .inl ⟨kn_non, fun H11 s11 => ⟨_, rfl, iteF ?_⟩⟩⟩
      have S := ((((s45.trans s6).trans s7).trans t8).trans s10).trans s11
      have hyS := (hy1.kp ((k2.trans e3).trans k4)).kp (kp_same S)
      have fin : ∀ H', Same H11 H' → Q (.bl true) H' := fun H' s' => k H' ((K3.trans k4).trans (kp_same (S.trans s'))) ((hw4.kp (S.trans s')).mono (by omega))
      have done : ∀ (b : Bool) H', Same H11 H' → Q (.bl (decide (V.bl b = V.bl b))) H' := fun b H' s' => by
        rw [decide_eq_true rfl]; exact fin H' s'
      cases hyS with
      | bl b =>
        obtain ⟨t, b1, b2, ty, k1', k2', k3, k4, e⟩ := kn_bl (K := K) (H := H11) b
        exact ⟨_, rfl, .bl b, rfl, .inl ⟨kn_bl b, fun H12 s12 => ⟨_, rfl, two_sz, fun q hq => ⟨_, q, _, _, _, _, rfl, upd_same, .cons (.ty _) (.cons (.ty _) .nil), ty_same (ty_same ty s12) (same_new hq), kitLT k3 k4, _, rfl, iteF ⟨rfl, done false _ (s12.newB hq)⟩⟩⟩⟩⟩
      | non =>
        obtain ⟨t, b1, b2, ty, k1', k2', k3, k4, e⟩ := kn_non (K := K) (H := H11)
        exact ⟨_, rfl, .non, rfl, .inl ⟨kn_non, fun H12 s12 => ⟨_, rfl, two_sz, fun q hq => ⟨_, q, _, _, _, _, rfl, upd_same, .cons (.ty _) (.cons (.ty _) .nil), ty_same (ty_same ty s12) (same_new hq), kitLT k3 k4, _, rfl, iteF ⟨rfl, done false _ (s12.newB hq)⟩⟩⟩⟩⟩
      | str z =>
        obtain ⟨t, b1, b2, ty, k1', k2', k3, k4, e⟩ := kn_str (K := K) (H := H11) z
        exact ⟨_, rfl, .str z, rfl, .inl ⟨kn_str z, fun H12 s12 => ⟨_, rfl, two_sz, fun q hq => ⟨_, q, _, _, _, _, rfl, upd_same, .cons (.ty _) (.cons (.ty _) .nil), ty_same (ty_same ty s12) (same_new hq), kitLT k3 k4, _, rfl, iteF ⟨rfl, done false _ (s12.newB hq)⟩⟩⟩⟩⟩
      | dk n h =>
        obtain ⟨t, b1, b2, ty, k1', k2', k3, k4, e⟩ := kn_dK (K := K) h
        exact ⟨_, rfl, _, rfl, .inl ⟨kn_dK h, fun H12 s12 => ⟨_, rfl, two_sz, fun q hq => ⟨_, q, _, _, _, _, rfl, upd_same, .cons (.ty _) (.cons (.ty _) .nil), ty_same (ty_same ty s12) (same_new hq), kitLT k3 k4, _, rfl, iteF ⟨rfl, done false _ (s12.newB hq)⟩⟩⟩⟩⟩
      | @l1 p n h =>
        obtain ⟨t, b1, b2, ty, k1', k2', k3, k4, e⟩ := kn_lst (K := K) h
        refine ⟨_, rfl, _, rfl, .inr ⟨p, _, rfl, .inl h, knall_ints [1], by show 1 ≤ 100000; decide, fun H12 s12 => ⟨_, rfl, two_sz, fun q hq => ⟨_, q, _, _, _, _, rfl, upd_same, .cons (.ty _) (.cons (.ty _) .nil), ty_same (ty_same ty s12) (same_new hq), kitLT k3 k4, _, rfl, iteT ?_⟩⟩⟩⟩
        have r1 := s12.newB (o := .tup [.ty "list", .ty "tuple"]) hq
        refine ⟨_, rfl, by show 1 ≤ sizeLine; decide, fun q1 g1 => ?_⟩
        have r2 := r1.newB (o := .lst [V.int 1]) g1
        have f1 : (upd (upd H12 q (.tup [.ty "list", .ty "tuple"])) q1 (.lst [V.int 1])) q1 = some (.lst [V.int 1]) := upd_same
        generalize upd (upd H12 q (.tup [.ty "list", .ty "tuple"])) q1 (.lst [V.int 1]) = G10 at r2 f1 ⊢
        refine ⟨by show 1 ≤ sizeLine; decide, fun q2 g2 => ?_⟩
        have r3 := r2.newB (o := .tup [V.int 1]) g2
        have f2 : (upd G10 q2 (.tup [V.int 1])) q2 = some (.tup [V.int 1]) := upd_same
        have f1b := same_new (o := .tup [V.int 1]) g2 _ _ f1
        generalize upd G10 q2 (.tup [V.int 1]) = G11 at r3 f2 f1b ⊢
        refine ⟨two_sz, fun q3 g3 => ?_⟩
        have r4 := r3.newB (o := .tup [V.ref q1, V.ref q2]) g3
        have f3 : (upd G11 q3 (.tup [V.ref q1, V.ref q2])) q3 = some (.tup [V.ref q1, V.ref q2]) := upd_same
        have f2b := same_new (o := .tup [V.ref q1, V.ref q2]) g3 _ _ f2
        have f1c := same_new (o := .tup [V.ref q1, V.ref q2]) g3 _ _ f1b
        generalize upd G11 q3 (.tup [V.ref q1, V.ref q2]) = G12 at r4 f3 f2b f1c ⊢
        refine ⟨.list [.int 1], [.list [.int 1], .tuple [.int 1]], .lst (SqL.of (r4 _ _ h)) (.cons (.int 1) .nil), .tup (SqT.of f3) (.cons (.lst (SqL.of f1c) (.cons (.int 1) .nil)) (.cons (.tup (SqT.of f2b) (.cons (.int 1) .nil)) .nil)), rfl, rfl, _, rfl, iteT ?_⟩
        exact ⟨_, rfl, .inl ⟨p, _, _, _, rfl, rfl, SqL.of (r4 _ _ h), rfl, .inr ⟨1, true, rfl, rfl, rfl, done true _ r4⟩⟩⟩
      | @lt p n h =>
        obtain ⟨t, b1, b2, ty, k1', k2', k3, k4, e⟩ := kn_lst (K := K) h
        refine ⟨_, rfl, _, rfl, .inr ⟨p, _, rfl, .inl h, (fun x hx => by rw [List.mem_singleton.mp hx]; exact ⟨_, _, kn_bl true⟩), by show 1 ≤ 100000; decide, fun H12 s12 => ⟨_, rfl, two_sz, fun q hq => ⟨_, q, _, _, _, _, rfl, upd_same, .cons (.ty _) (.cons (.ty _) .nil), ty_same (ty_same ty s12) (same_new hq), kitLT k3 k4, _, rfl, iteT ?_⟩⟩⟩⟩
        have r1 := s12.newB (o := .tup [.ty "list", .ty "tuple"]) hq
        refine ⟨_, rfl, by show 1 ≤ sizeLine; decide, fun q1 g1 => ?_⟩
        have r2 := r1.newB (o := .lst [V.int 1]) g1
        have f1 : (upd (upd H12 q (.tup [.ty "list", .ty "tuple"])) q1 (.lst [V.int 1])) q1 = some (.lst [V.int 1]) := upd_same
        generalize upd (upd H12 q (.tup [.ty "list", .ty "tuple"])) q1 (.lst [V.int 1]) = G10 at r2 f1 ⊢
        refine ⟨by show 1 ≤ sizeLine; decide, fun q2 g2 => ?_⟩
        have r3 := r2.newB (o := .tup [V.int 1]) g2
        have f2 : (upd G10 q2 (.tup [V.int 1])) q2 = some (.tup [V.int 1]) := upd_same
        have f1b := same_new (o := .tup [V.int 1]) g2 _ _ f1
        generalize upd G10 q2 (.tup [V.int 1]) = G11 at r3 f2 f1b ⊢
        refine ⟨two_sz, fun q3 g3 => ?_⟩
        have r4 := r3.newB (o := .tup [V.ref q1, V.ref q2]) g3
        have f3 : (upd G11 q3 (.tup [V.ref q1, V.ref q2])) q3 = some (.tup [V.ref q1, V.ref q2]) := upd_same
        have f2b := same_new (o := .tup [V.ref q1, V.ref q2]) g3 _ _ f2
        have f1c := same_new (o := .tup [V.ref q1, V.ref q2]) g3 _ _ f1b
        generalize upd G11 q3 (.tup [V.ref q1, V.ref q2]) = G12 at r4 f3 f2b f1c ⊢
        refine ⟨.list [.bool true], [.list [.int 1], .tuple [.int 1]], .lst (SqL.of (r4 _ _ h)) (.cons (.bl true) .nil), .tup (SqT.of f3) (.cons (.lst (SqL.of f1c) (.cons (.int 1) .nil)) (.cons (.tup (SqT.of f2b) (.cons (.int 1) .nil)) .nil)), rfl, rfl, _, rfl, iteT ?_⟩
        exact ⟨_, rfl, .inl ⟨p, _, _, _, rfl, rfl, SqL.of (r4 _ _ h), rfl, .inl ⟨true, true, rfl, rfl, rfl, done false _ r4⟩⟩⟩
      | @t1 p n h =>
        obtain ⟨t, b1, b2, ty, k1', k2', k3, k4, e⟩ := kn_tup (K := K) h
        refine ⟨_, rfl, _, rfl, .inr ⟨p, _, rfl, .inr h, knall_ints [1], by show 1 ≤ 100000; decide, fun H12 s12 => ⟨_, rfl, two_sz, fun q hq => ⟨_, q, _, _, _, _, rfl, upd_same, .cons (.ty _) (.cons (.ty _) .nil), ty_same (ty_same ty s12) (same_new hq), kitLT k3 k4, _, rfl, iteT ?_⟩⟩⟩⟩
        have r1 := s12.newB (o := .tup [.ty "list", .ty "tuple"]) hq
        refine ⟨_, rfl, by show 1 ≤ sizeLine; decide, fun q1 g1 => ?_⟩
        have r2 := r1.newB (o := .lst [V.int 1]) g1
        have f1 : (upd (upd H12 q (.tup [.ty "list", .ty "tuple"])) q1 (.lst [V.int 1])) q1 = some (.lst [V.int 1]) := upd_same
        generalize upd (upd H12 q (.tup [.ty "list", .ty "tuple"])) q1 (.lst [V.int 1]) = G10 at r2 f1 ⊢
        refine ⟨by show 1 ≤ sizeLine; decide, fun q2 g2 => ?_⟩
        have r3 := r2.newB (o := .tup [V.int 1]) g2
        have f2 : (upd G10 q2 (.tup [V.int 1])) q2 = some (.tup [V.int 1]) := upd_same
        have f1b := same_new (o := .tup [V.int 1]) g2 _ _ f1
        generalize upd G10 q2 (.tup [V.int 1]) = G11 at r3 f2 f1b ⊢
        refine ⟨two_sz, fun q3 g3 => ?_⟩
        have r4 := r3.newB (o := .tup [V.ref q1, V.ref q2]) g3
        have f3 : (upd G11 q3 (.tup [V.ref q1, V.ref q2])) q3 = some (.tup [V.ref q1, V.ref q2]) := upd_same
        have f2b := same_new (o := .tup [V.ref q1, V.ref q2]) g3 _ _ f2
        have f1c := same_new (o := .tup [V.ref q1, V.ref q2]) g3 _ _ f1b
        generalize upd G11 q3 (.tup [V.ref q1, V.ref q2]) = G12 at r4 f3 f2b f1c ⊢
        refine ⟨.tuple [.int 1], [.list [.int 1], .tuple [.int 1]], .tup (SqT.of (r4 _ _ h)) (.cons (.int 1) .nil), .tup (SqT.of f3) (.cons (.lst (SqL.of f1c) (.cons (.int 1) .nil)) (.cons (.tup (SqT.of f2b) (.cons (.int 1) .nil)) .nil)), rfl, rfl, _, rfl, iteT ?_⟩
        exact ⟨_, rfl, .inr (.inl ⟨p, _, _, _, rfl, rfl, SqT.of (r4 _ _ h), rfl, .inr ⟨1, true, rfl, rfl, rfl, done true _ r4⟩⟩)⟩
      | @t2 p n h =>
        obtain ⟨t, b1, b2, ty, k1', k2', k3, k4, e⟩ := kn_tup (K := K) h
        refine ⟨_, rfl, _, rfl, .inr ⟨p, _, rfl, .inr h, (fun x hx => by
          rcases List.mem_cons.mp hx with rfl | hx
          · exact ⟨_, _, kn_str _⟩
          · rw [List.mem_singleton.mp hx]; exact ⟨_, _, kn_int 0⟩), by show 2 ≤ 100000; decide, fun H12 s12 => ⟨_, rfl, two_sz, fun q hq => ⟨_, q, _, _, _, _, rfl, upd_same, .cons (.ty _) (.cons (.ty _) .nil), ty_same (ty_same ty s12) (same_new hq), kitLT k3 k4, _, rfl, iteT ?_⟩⟩⟩⟩
        have r1 := s12.newB (o := .tup [.ty "list", .ty "tuple"]) hq
        refine ⟨_, rfl, by show 1 ≤ sizeLine; decide, fun q1 g1 => ?_⟩
        have r2 := r1.newB (o := .lst [V.int 1]) g1
        have f1 : (upd (upd H12 q (.tup [.ty "list", .ty "tuple"])) q1 (.lst [V.int 1])) q1 = some (.lst [V.int 1]) := upd_same
        generalize upd (upd H12 q (.tup [.ty "list", .ty "tuple"])) q1 (.lst [V.int 1]) = G10 at r2 f1 ⊢
        refine ⟨by show 1 ≤ sizeLine; decide, fun q2 g2 => ?_⟩
        have r3 := r2.newB (o := .tup [V.int 1]) g2
        have f2 : (upd G10 q2 (.tup [V.int 1])) q2 = some (.tup [V.int 1]) := upd_same
        have f1b := same_new (o := .tup [V.int 1]) g2 _ _ f1
        generalize upd G10 q2 (.tup [V.int 1]) = G11 at r3 f2 f1b ⊢
        refine ⟨two_sz, fun q3 g3 => ?_⟩
        have r4 := r3.newB (o := .tup [V.ref q1, V.ref q2]) g3
        have f3 : (upd G11 q3 (.tup [V.ref q1, V.ref q2])) q3 = some (.tup [V.ref q1, V.ref q2]) := upd_same
        have f2b := same_new (o := .tup [V.ref q1, V.ref q2]) g3 _ _ f2
        have f1c := same_new (o := .tup [V.ref q1, V.ref q2]) g3 _ _ f1b
        generalize upd G11 q3 (.tup [V.ref q1, V.ref q2]) = G12 at r4 f3 f2b f1c ⊢
        exact ⟨.tuple [.str "0", .int 0], [.list [.int 1], .tuple [.int 1]], .tup (SqT.of (r4 _ _ h)) (.cons (.str _) (.cons (.int 0) .nil)), .tup (SqT.of f3) (.cons (.lst (SqL.of f1c) (.cons (.int 1) .nil)) (.cons (.tup (SqT.of f2b) (.cons (.int 1) .nil)) .nil)), by decide +kernel, rfl, _, rfl, iteF ⟨rfl, done false _ r4⟩⟩

/-! ### primes -/
def sieve : Nat → List Int
  | 0 => []
  | i + 1 => if (sieve i).filter (fun q => decide ((2 + (i : Int)) % q = 0)) = [] then sieve i ++ [2 + (i : Int)] else sieve i
theorem sieve_len : ∀ i, (sieve i).length ≤ i
  | 0 => Nat.le_refl _
  | i + 1 => by
    have ih := sieve_len i
    unfold sieve
    split
    · rw [List.length_append]; show (sieve i).length + 1 ≤ i + 1; omega
    · omega
theorem sieve_pos : ∀ i, ∀ q ∈ sieve i, 0 < q
  | 0, _, h => (nomatch h)
  | i + 1, q, h => by
    have ih := sieve_pos i
    unfold sieve at h
    split at h
    · rcases List.mem_append.mp h with h | h
      · exact ih q h
      · rw [List.mem_singleton.mp h]; omega
    · exact ih q h
theorem sieve_98 : (sieve 98).map V.int = primesV := by decide +kernel
def sp_primes : Sp := fun vs H Q _ => vs = [] ∧ ∀ p H', H p = none → Same H H' → H' p = some (.tup primesV) → Q (.ref p) H'
theorem ok_law_primes (T : Txt K mg) : FnOk P w K mg base CX0 1 (He.fAd K ("_law_primes", none)) (fdOf K ("_law_primes", none)) [] sp_primes := by
  refine ok0 T.d_law_primes sc_law_primes (fun vs H Q E h => ?_) (fun cdv A outer s H vs Q E hr h => ?_)
  · obtain ⟨rfl, _⟩ := h
    rfl
  · obtain ⟨rfl, k⟩ := h
    have nd := sc_law_primes.nd
    refine ⟨_, (pss_cons (ps_setN 0 nd (pe_lst pa_nil))
    (pss_cons (ps_for PassesOwn.never rfl (pi_range2 rfl T.n_range (pa_cons pe_int (pa_cons pe_int pa_nil))) (pgn 1 nd) (pss_one (ps_if (pt_cmpR (op_eqD hr.units) (pe_lc (own := [("prime", 2)]) rfl nd (pi_list (pv 0)) (blk_k (by kernel_rfl)) (fun _ _ _ _ _ => (pgn 2 nd)) (fun _ _ _ _ _ => (pts_one (pt_cmpR op_eq (pe_op op_mod (pe_callTy call_int1 rfl T.n_int (by decide +kernel) (pa_cons (pv 1) pa_nil)) (pv 2)) pe_int (nomark _)))) (fun _ _ _ _ _ => (pv 2))) (pe_lst pa_nil) (nomark _)) (pss_one (ps_expr (pe_bm PySem.F.plainAttrs_list PySem.F.slot_list_append PySem.F.type_list_append mt_append (pv 0) (pa_cons (pv 1) pa_nil)))) pss_nil)))
    (pss_one (ps_ret (pe_callTy call_tuple_of rfl T.n_tuple (by decide +kernel) (pa_cons (pv 0) pa_nil)))))), ?_⟩
    refine ⟨Nat.zero_le _, fun D hD => ?_⟩
    refine ⟨2, 100, rfl, by decide, for_range (lo := 2) (n := 98) (fun i σ H' => ∃ v : Option V, σ = [some (.ref D), v, none] ∧ H' D = some (.lst ((sieve i).map V.int)) ∧ Same H H') ⟨none, rfl, upd_same, same_new hD⟩ ?_ ?_⟩
    · rintro i σ H1 hi ⟨v, rfl, e1, s1⟩
      have slen := sieve_len i
      refine ⟨_, rfl, D, rfl, ⟨_, SqL.of e1⟩, fun D2 hD2 => lc_pureL (fun x => match x with | .int q => if (2 + (i : Int)) % q = 0 then some x else none | _ => none) (SqL.of e1) hD2 (by rw [List.length_map]; omega) (fun x H2 Qk Qs hx sx hk1 hk2 => ?_) (fun H2 s2 e2 => ?_)⟩
      · obtain ⟨q, hq, rfl⟩ := List.mem_map.mp hx
        have q0 := sieve_pos i q hq
        refine ⟨rfl, _, rfl, .inl ⟨_, rfl, _, rfl, _, _, rfl, rfl, q0, rfl, _, rfl, ?_⟩⟩
        refine iteS (fun hb => ?_) (fun hb => ?_)
        · have hm : (2 + (i : Int)) % q = 0 := V.int.inj (of_decide_eq_true hb)
          exact ⟨_, rfl, hk1 _ _ (if_pos hm) (Same.refl _)⟩
        · have hm : ¬ (2 + (i : Int)) % q = 0 := fun z => of_decide_eq_false hb (congrArg V.int z)
          exact hk2 _ (if_neg hm) (Same.refl _)
      · have ef : ((sieve i).map V.int).filterMap (fun x => match x with | .int q => if (2 + (i : Int)) % q = 0 then some x else none | _ => none) = ((sieve i).filter (fun q => decide ((2 + (i : Int)) % q = 0))).map V.int := by
          generalize sieve i = l
          induction l with
          | nil => rfl
          | cons q r ih =>
            rw [List.map_cons, List.filterMap_cons, List.filter_cons]
            by_cases hm : (2 + (i : Int)) % q = 0
            · simp only [hm, if_true, decide_true, List.map_cons, ih]
            · simp only [hm, if_false, decide_false, ih]; rfl
        rw [ef] at e2
        refine ⟨Nat.zero_le _, fun D3 hD3 => ?_⟩
        refine ⟨.list (((sieve i).filter (fun q => decide ((2 + (i : Int)) % q = 0))).map PyData.int), .list [], .lst (SqL.of (same_new hD3 _ _ e2)) (dpAll_ints _), .lst (SqL.of upd_same) .nil, shaped_ints _, by decide, _, rfl, ?_⟩
        rw [eqv_nil_ints]
        have e3 := same_new (o := .lst []) hD3 _ _ (s2 _ _ e1)
        have s3 := (s1.trans s2).newB (o := .lst []) hD3
        refine iteS (fun hb => ?_) (fun hb => ?_)
        · refine ⟨_, rfl, .inl ⟨rfl, _, SqL.of e3⟩, _, rfl, D, _, _, rfl, rfl, e3, by rw [List.length_map]; exact szl (by omega), _, rfl, ?_, ?_⟩
          · have em : (sieve i).filter (fun q => decide ((2 + (i : Int)) % q = 0)) = [] := List.isEmpty_iff.mp hb
            have es : sieve (i + 1) = sieve i ++ [2 + (i : Int)] := by
              show (if _ then _ else _) = _
              rw [if_pos em]
            rw [es, List.map_append]
            exact upd_same
          · intro b o e
            rw [upd_ne (ne_of_none e hD)]
            exact s3 _ _ e
        · have em : ¬ (sieve i).filter (fun q => decide ((2 + (i : Int)) % q = 0)) = [] := fun z => by
            rw [z] at hb; cases hb
          have es : sieve (i + 1) = sieve i := by
            show (if _ then _ else _) = _
            rw [if_neg em]
          exact ⟨_, rfl, by rw [es]; exact e3, s3⟩
    · rintro σ H1 ⟨v, rfl, e1, s1⟩
      rw [sieve_98] at e1
      refine ⟨_, rfl, _, _, rfl, .inl ⟨SqL.of e1, fun l hl => ?_⟩⟩
      exact k l _ (s1.free hl) (s1.newB hl) upd_same

theorem knall_primes : (primesV.all fun x => match x with | .int q => isPr (.int q) && (decide (2 ≤ q) && decide (q ≤ 97)) | _ => false) = true := by decide +kernel
theorem prime_is {x : V} (h : x ∈ primesV) : ∃ q : Int, x = .int q ∧ isPr (.int q) = true ∧ 2 ≤ q ∧ q ≤ 97 := by
  have a := List.all_eq_true.mp knall_primes x h
  cases x with
  | int q =>
    obtain ⟨h1, h2⟩ := Bool.and_eq_true_iff.mp a
    obtain ⟨h3, h4⟩ := Bool.and_eq_true_iff.mp h2
    exact ⟨q, rfl, h1, of_decide_eq_true h3, of_decide_eq_true h4⟩
  | _ => cases a
theorem inV_prime {i : Int} (h : inV (.int i) primesV = true) : 2 ≤ i ∧ i ≤ 97 := by
  unfold inV at h
  obtain ⟨y, hy, e⟩ := List.any_eq_true.mp h
  obtain ⟨q, rfl, _, h2, h3⟩ := prime_is hy
  have : (q == i) = true := e
  have := beq_iff_eq.mp this
  omega
theorem notPr {i : Int} (h : 97 < i) : isPr (.int i) = false := by
  unfold isPr
  cases e : inV (.int i) primesV with
  | false => rw [Bool.and_false]
  | true => have := inV_prime e; omega
def dPr : PyData := .tuple [.int 2, .int 3, .int 5, .int 7, .int 11, .int 13, .int 17, .int 19, .int 23, .int 29, .int 31, .int 37, .int 41, .int 43, .int 47, .int 53, .int 59, .int 61, .int 67, .int 71, .int 73, .int 79, .int 83, .int 89, .int 97]
theorem dp_primes {H : Hp} {a : Addr} (h : SqT K H a primesV) : Dp K H (.ref a) dPr := .tup h (.cons (.int 2) (.cons (.int 3) (.cons (.int 5) (.cons (.int 7) (.cons (.int 11) (.cons (.int 13) (.cons (.int 17) (.cons (.int 19) (.cons (.int 23) (.cons (.int 29) (.cons (.int 31) (.cons (.int 37) (.cons (.int 41) (.cons (.int 43) (.cons (.int 47) (.cons (.int 53) (.cons (.int 59) (.cons (.int 61) (.cons (.int 67) (.cons (.int 71) (.cons (.int 73) (.cons (.int 79) (.cons (.int 83) (.cons (.int 89) (.cons (.int 97) .nil)))))))))))))))))))))))))
theorem sgn (q : Int) (v : V) (h : isPr (.int q) = true) : isSg (.int q) v = within v (.int 0) (.int (q - 1)) := by
  unfold isSg
  rw [h, Bool.true_and]
theorem sgn_odd {x v : V} (h : isI x = false) : isSg x v = false := by
  unfold isSg isPr
  rw [h, Bool.false_and, Bool.false_and]
theorem ok_law_signs_right (T : Txt K mg) : FnG P w K mg base CX0 4 (He.fAd K ("_law_signs_right", none)) (fdOf K ("_law_signs_right", none)) ["well"] (sp_right 10) := by
  refine ok0G T.d_law_signs_right sc_law_signs_right (fun vs H Q E h => ?_) (fun cdv A outer s H vs Q E hgd hr h => ?_)
  · obtain ⟨a, c, n, rfl, _⟩ := h
    rfl
  · obtain ⟨a, c, n, rfl, hw, hn, k⟩ := h
    have nd := sc_law_signs_right.nd
    refine ⟨_, (pss_cons (ps_par3 (i := 1) (j := 2) (l := 3) rfl nd rfl rfl rfl (by decide) (by decide) (by decide) rfl rfl rfl (pa_cons (pcall (ok_law_odd T) hr (by decide) T.c_law_odd pass0 (pa_cons (pv 0) pa_nil)) (pa_cons (pe_op op_sub (pcall (ok_law_pail T) hr (by decide) T.c_law_pail pass0 (pa_cons (pv 0) (pa_cons pe_int pa_nil))) pe_int) (pa_cons (pcall0 (ok_law_primes T) hr (by decide) T.c_law_primes pass0) pa_nil))) (by rfl))
    (pss_cons (ps_if (PW.pt (pw_or (pt_cmpR op_ne (pe_callB (call_reprD hgd hr.units) rfl T.n_repr (by decide +kernel) (pa_cons (pe_glob (v := .ref _) rfl T.g_PRIMES rfl) pa_nil)) (pe_callB (call_reprD hgd hr.units) rfl T.n_repr (by decide +kernel) (pa_cons (pv 3) pa_nil)) (nomark _)) (pw_or (pt_cmpR op_ne (pcallN0 (ok_is_prime T) hr (by decide) T.c_is_prime T.k_is_prime_0_value pass0 (pk_cons (pv 2) pk_nil)) (pe_cmpR op_in_seq (pv 2) (pv 3) (by rfl)) (nomark _)) (pw_or (pt_val (pcall (ok_is_prime T) hr (by decide) T.c_is_prime pass0 (pa_cons (pv 1) pa_nil))) (pw_or1 (pt_val (pcall (ok_is_prime T) hr (by decide) T.c_is_prime pass0 (pa_cons (pe_op op_mul (pe_ix ix_tup (pv 3) (pe_un un_neg pe_int) (fun _ _ => rfl)) (pe_op op_pow pe_int pe_int)) pa_nil)))))))) (pss_one (ps_ret pe_bl)) pss_nil)
    (pss_cons (ps_setN 4 nd (pcall (ok_law_of T) hr (by decide) T.c_law_of pass0 (pa_cons (pv 0) (pa_cons (pe_callTy call_list_of rfl T.n_list (by decide +kernel) (pa_cons (pv 3) pa_nil)) pa_nil))))
    (pss_cons (ps_setN 5 nd (pe_lst (pa_cons (pcall (ok_is_sign T) hr (by decide) T.c_is_sign pass0 (pa_cons (pv 4) (pa_cons pe_int pa_nil))) (pa_cons (pcallN0 (ok_is_sign T) hr (by decide) T.c_is_sign T.k_is_sign_0_p_value pass0 (pk_cons (pv 4) (pk_cons (pe_op op_sub (pv 4) pe_int) pk_nil))) (pa_cons (pcall (ok_is_sign T) hr (by decide) T.c_is_sign pass0 (pa_cons (pv 4) (pa_cons (pv 4) pa_nil))) (pa_cons (pcall (ok_is_sign T) hr (by decide) T.c_is_sign pass0 (pa_cons (pv 4) (pa_cons (pe_un un_neg pe_int) pa_nil))) (pa_cons (pcall (ok_is_sign T) hr (by decide) T.c_is_sign pass0 (pa_cons (pv 4) (pa_cons (pv 1) pa_nil))) (pa_cons (pcall (ok_is_sign T) hr (by decide) T.c_is_sign pass0 (pa_cons (pv 4) (pa_cons (pv 2) pa_nil))) pa_nil))))))))
    (pss_cons (ps_if (PW.pt (pw_or (pt_cmpR (op_neD hr.units) (pv 5) (pe_lst (pa_cons pe_bl (pa_cons pe_bl (pa_cons pe_bl (pa_cons pe_bl (pa_cons pe_bl (pa_cons (pe_chain op_le op_lt pe_int (pv 2) (pv 4)) pa_nil))))))) (nomark _)) (pw_or (pt_val (pcall (ok_is_sign T) hr (by decide) T.c_is_sign pass0 (pa_cons (pv 1) (pa_cons pe_int pa_nil)))) (pw_or1 (pt_val (pcall (ok_is_sign T) hr (by decide) T.c_is_sign pass0 (pa_cons (pe_op op_mul (pv 4) (pe_op op_pow pe_int pe_int)) (pa_cons pe_int pa_nil)))))))) (pss_one (ps_ret pe_bl)) pss_nil)
    (pss_one (ps_ret (pe_cmpR op_eq (pcall (ok_is_sign T) hr (by decide) T.c_is_sign pass0 (pa_cons (pv 2) (pa_cons pe_int pa_nil))) (pe_cmpR op_in_seq (pv 2) (pv 3) (by rfl)) (nomark _))))))))), ?_⟩
    refine ⟨_, rfl, a, c, n, rfl, hw, by omega, fun y H1 hy k1 hw1 => ?_⟩
    refine ⟨_, rfl, a, c, _, n + 1, rfl, hw1, by omega, by decide, by decide, fun m0 H2 m1 m2 k2 hw2 => ⟨_, _, rfl, rfl, rfl, fun p H3 hp s3 ep => ⟨_, _, _, rfl, ?_⟩⟩⟩
    have np := ne_a hw2 (Same.refl _) hp
    have K3 : Kp a H H3 := (k1.trans k2).trans (kp_same s3)
    have hw3 := hw2.kp s3
    obtain ⟨yi, b3, b4, kny⟩ := ((hy.kp k2).kp (kp_same s3)).kn
    refine ⟨_, dPr, rfl, dp_primes (T.t_PRIMES H3), by decide +kernel, by decide +kernel, by decide +kernel, by decide +kernel, _, rfl, _, dPr, rfl, dp_primes (SqT.of ep), by decide +kernel, by decide +kernel, by decide +kernel, by decide +kernel, rfl, _, rfl, ?_⟩
    refine iteS (fun hb => absurd hb (by rw [decide_eq_true rfl]; decide)) (fun _ => ?_)
    refine ⟨_, rfl, rfl, rfl, .int (m0 - 10), false, false, rfl, kn_int (m0 - 10), fun H4 s4 => ?_⟩
    refine ⟨_, rfl, _, rfl, p, primesV, rfl, .inr (SqT.of (s4 _ _ ep)), rfl, by decide, rfl, _, rfl, ?_⟩
    refine iteS (fun hb => absurd hb ?_) (fun _ => ?_)
    · have e : isPr (.int (m0 - 10)) = inV (.int (m0 - 10)) primesV := by unfold isPr; rw [Bool.and_eq_right_iff_imp]; intro _; rfl
      rw [e]
      intro z
      have z' : (!decide (V.bl (inV (.int (m0 - 10)) primesV) = V.bl (inV (.int (m0 - 10)) primesV))) = true := z
      rw [decide_eq_true rfl] at z'
      cases z'
    refine ⟨_, rfl, y, b3, b4, rfl, kny.same s4, fun H5 s5 => ⟨_, rfl, ?_⟩⟩
    have ey : isPr y = false := by unfold isPr; rw [yi, Bool.false_and]
    rw [ey]
    refine iteF ?_
    refine ⟨_, rfl, _, rfl, p, _, _, _, rfl, rfl, SqT.of (s5 _ _ (s4 _ _ ep)), rfl, _, _, rfl, rfl, ⟨by decide, by decide, by decide⟩, _, _, rfl, rfl, .inl ⟨by decide, by decide⟩, _, false, false, rfl, kn_int _, fun H6 s6 => ⟨_, rfl, ?_⟩⟩
    rw [notPr (by decide +kernel)]
    refine iteF ?_
    have s36 := (s4.trans s5).trans s6
    have ep6 := s36 _ _ ep
    refine ⟨_, rfl, _, rfl, p, primesV, rfl, .inr (SqT.of ep6), fun l hl => ?_⟩
    have s7 := same_new (o := .lst primesV) hl
    have nl := ne_a hw3 s36 hl
    refine ⟨a, c, l, n + 2, primesV, rfl, (hw3.kp s36).kp s7, by omega, upd_same, nl, by show 0 < 25; decide, by show 25 ≤ 100000; decide, fun x H8 hx k8 hw8 => ?_⟩
    obtain ⟨q, rfl, hq, q2, q97⟩ := prime_is hx
    have K8 : Kp a H H8 := (K3.trans (kp_same (s36.trans s7))).trans k8
    have ep8 := k8 _ _ np (s7 _ _ ep6)
    obtain ⟨_, b3, b4, kny⟩ := ((((hy.kp k2).kp (kp_same s3)).kp (kp_same (s36.trans s7))).kp k8).kn
    refine ⟨_, rfl, .int q, .int 0, _, _, _, _, rfl, kn_int q, kn_int 0, fun H9 s9 => ?_⟩
    refine ⟨_, rfl, _, rfl, _, _, rfl, rfl, rfl, rfl, .int q, .int (q - 1), _, _, _, _, rfl, kn_int q, kn_int _, fun H10 s10 => ?_⟩
    refine ⟨_, rfl, _, rfl, .int q, .int q, _, _, _, _, rfl, kn_int q, kn_int q, fun H11 s11 => ?_⟩
    refine ⟨_, rfl, _, rfl, .int q, .int (-1), _, _, _, _, rfl, kn_int q, kn_int _, fun H12 s12 => ?_⟩
    have s812 := ((s9.trans s10).trans s11).trans s12
    refine ⟨_, rfl, _, rfl, .int q, y, _, _, _, _, rfl, kn_int q, kny.same s812, fun H13 s13 => ?_⟩
    refine ⟨_, rfl, _, rfl, .int q, .int (m0 - 10), _, _, _, _, rfl, kn_int q, kn_int (m0 - 10), fun H14 s14 => ⟨by show 6 ≤ sizeLine; decide, fun t ht => ?_⟩⟩
    rw [sgn q _ hq, sgn q _ hq, sgn q _ hq, sgn q _ hq, sgn q _ hq, sgn q _ hq, within_not yi]
    have f1 : within (.int 0) (.int 0) (.int (q - 1)) = true := by show (decide ((0 : Int) ≤ 0) && decide (0 ≤ q - 1)) = true; rw [decide_eq_true (by omega), decide_eq_true (by omega)]; rfl
    have f2 : within (.int (q - 1)) (.int 0) (.int (q - 1)) = true := by show (decide ((0 : Int) ≤ q - 1) && decide (q - 1 ≤ q - 1)) = true; rw [decide_eq_true (by omega), decide_eq_true (by omega)]; rfl
    have f3 : within (.int q) (.int 0) (.int (q - 1)) = false := by show (decide ((0 : Int) ≤ q) && decide (q ≤ q - 1)) = false; rw [decide_eq_false (show ¬ q ≤ q - 1 by omega), Bool.and_false]
    have f4 : within (.int (-1)) (.int 0) (.int (q - 1)) = false := by show (decide ((0 : Int) ≤ -1) && decide (-1 ≤ q - 1)) = false; rfl
    have f5 : within (.int (m0 - 10)) (.int 0) (.int (q - 1)) = (decide (0 ≤ (m0 - 10)) && decide ((m0 - 10) < q)) := by
      show (decide ((0 : Int) ≤ (m0 - 10)) && decide ((m0 - 10) ≤ q - 1)) = _
      rw [dec_eq (show (m0 - 10) ≤ q - 1 ↔ (m0 - 10) < q by omega)]
    rw [f1, f2, f3, f4, f5]
    have s15 := same_new (o := .lst [V.bl true, V.bl true, V.bl false, V.bl false, V.bl false, V.bl (decide (0 ≤ (m0 - 10)) && decide ((m0 - 10) < q))]) ht
    have e15 : (upd H14 t (.lst [V.bl true, V.bl true, V.bl false, V.bl false, V.bl false, V.bl (decide (0 ≤ (m0 - 10)) && decide ((m0 - 10) < q))])) t = some (.lst [V.bl true, V.bl true, V.bl false, V.bl false, V.bl false, V.bl (decide (0 ≤ (m0 - 10)) && decide ((m0 - 10) < q))]) := upd_same
    generalize upd H14 t (.lst [V.bl true, V.bl true, V.bl false, V.bl false, V.bl false, V.bl (decide (0 ≤ (m0 - 10)) && decide ((m0 - 10) < q))]) = H15 at s15 e15 ⊢
    have S15 := ((s812.trans s13).trans s14).trans s15
    refine ⟨_, rfl, _, rfl, _, _, rfl, rfl, _, rfl, ?_⟩
    refine iteS (fun hb => ⟨_, rfl, _, _, rfl, rfl, ?_⟩) (fun hb => ?_)
    all_goals
      refine ⟨by show 6 ≤ sizeLine; decide, fun u hu => ?_⟩
      refine ⟨.list [.bool true, .bool true, .bool false, .bool false, .bool false, .bool (decide (0 ≤ (m0 - 10)) && decide ((m0 - 10) < q))], .list [.bool true, .bool true, .bool false, .bool false, .bool false, .bool _], .lst (SqL.of (same_new hu _ _ e15)) (.cons (.bl _) (.cons (.bl _) (.cons (.bl _) (.cons (.bl _) (.cons (.bl _) (.cons (.bl _) .nil)))))), .lst (SqL.of upd_same) (.cons (.bl _) (.cons (.bl _) (.cons (.bl _) (.cons (.bl _) (.cons (.bl _) (.cons (.bl _) .nil)))))), rfl, rfl, _, rfl, ?_⟩
      refine iteS (fun hb2 => absurd hb2 (by rw [hb]; simp [PyData.eqv, PyData.eqvAll])) (fun _ => ?_)
      have s16 : ∀ o, Same H8 (upd H15 u o) := fun o => S15.newB hu
      refine ⟨_, rfl, y, .int 0, _, _, _, _, rfl, kny.same (s16 _), kn_int 0, fun H17 s17 => ⟨_, rfl, ?_⟩⟩
      rw [sgn_odd yi]
      refine iteF ?_
      refine ⟨_, rfl, _, _, rfl, rfl, ⟨by decide, by decide, by decide⟩, _, _, rfl, rfl, .inl ⟨by omega, by omega⟩, .int _, .int 1, _, _, _, _, rfl, kn_int _, kn_int 1, fun H18 s18 => ⟨_, rfl, ?_⟩⟩
      have z9 : isSg (.int (q * 10 ^ (9 : Int).toNat)) (.int 1) = false := by
        unfold isSg
        rw [notPr (by show 97 < q * 1000000000; omega), Bool.false_and]
      rw [z9]
      refine iteF ?_
      refine ⟨_, rfl, .int (m0 - 10), .int 0, _, _, _, _, rfl, kn_int (m0 - 10), kn_int 0, fun H19 s19 => ?_⟩
      have s819 := (((s16 _).trans s17).trans s18).trans s19
      refine ⟨_, rfl, _, rfl, p, primesV, rfl, .inr (SqT.of (s819 _ _ ep8)), rfl, by decide, rfl, ?_⟩
      have em : isSg (.int (m0 - 10)) (.int 0) = inV (.int (m0 - 10)) primesV := by
        cases hv : inV (.int (m0 - 10)) primesV with
        | false =>
          unfold isSg isPr
          rw [hv, Bool.and_false, Bool.false_and]
        | true =>
          have b := inV_prime hv
          have hp : isPr (.int (m0 - 10)) = true := by unfold isPr; rw [hv]; rfl
          rw [sgn (m0 - 10) _ hp]
          show (decide ((0 : Int) ≤ 0) && decide (0 ≤ (m0 - 10) - 1)) = true
          rw [decide_eq_true (by omega), decide_eq_true (by omega)]; rfl
      rw [em]
      have r := k H19 (K8.trans (kp_same s819)) ((hw8.kp s819).mono (by omega))
      have ed : decide (V.bl (inV (.int (m0 - 10)) primesV) = V.bl (if false = true then !inV (.int (m0 - 10)) primesV else inV (.int (m0 - 10)) primesV)) = true := decide_eq_true rfl
      show Q (.bl (decide (V.bl (inV (.int (m0 - 10)) primesV) = V.bl (if false = true then !inV (.int (m0 - 10)) primesV else inV (.int (m0 - 10)) primesV)))) H19
      rw [ed]
      exact r

def pairV (n : Int) : List V := [.int (n / 3), .int n]
theorem pairs_int (ns : List Int) : ns.map pairV = (ns.map fun n => [n / 3, n]).map fun ys => ys.map V.int := by
  rw [List.map_map]; rfl
theorem dueV {ns : List Int} : (dueI ns ns.length = [] ∧ ftw [] ns = none) ∨ ∃ j r x, dueI ns ns.length = j :: r ∧ ns[j]? = some x ∧ ftw [] ns = some x := by
  have h := ftw_all ns
  cases e : dueI ns ns.length with
  | nil => rw [e] at h; exact .inl ⟨rfl, h⟩
  | cons j r =>
    rw [e] at h
    have hj : j < ns.length := dueI_mem (ns := ns) (by rw [e]; exact List.mem_cons_self)
    exact .inr ⟨j, r, ns[j], rfl, List.getElem?_eq_getElem hj, h.trans (List.getElem?_eq_getElem hj)⟩
theorem non_ne : V.bl (!decide (V.non = V.non)) = V.bl false := by simp
theorem int_ne (x : Int) : V.bl (!decide (V.int x = V.int x)) = V.bl false := by simp
theorem non_eq {Q : VK} (H : Hp) (h : Q (.bl true) H) : Q (.bl (decide (V.non = V.non))) H := by simpa using h
theorem int_eq {Q : VK} {H : Hp} (x : Int) (h : Q (.bl true) H) : Q (.bl (decide (V.int x = V.int x))) H := by simpa using h
theorem pair_eqv (x y : Int) : V.bl (!PyData.eqv (.tuple ([x, y].map PyData.int)) (.tuple ([x, y].map PyData.int))) = V.bl false := by simp [PyData.eqv, PyData.eqvAll]
def negV (v : V) : Option V := match v with
  | .int i => some (.int (-i))
  | _ => none
theorem neg_map (ns : List Int) : (ns.map V.int).filterMap negV = (ns.map fun n => -n).map V.int := by
  rw [List.filterMap_map, List.map_map]
  exact fm_some _ ns
/-- due != [] -/
theorem due_test {σ : L2.St} {H : Hp} {i : Nat} {a : Addr} {ds : List Int} {Q : Bool → Hp → Prop} (hs : σ[i]? = some (some (.ref a))) (h : H a = some (.lst (ds.map V.int))) (k : ∀ H', Same H H' → Q (!ds.isEmpty) H') :
    tTest (tOp (rNeD K) (tVar i) (tLst tNil)) σ H Q := by
  refine ⟨_, hs, by decide, fun q hq => ?_⟩
  have s := same_new (o := .lst []) hq
  refine ⟨.list (ds.map PyData.int), .list [], .lst (SqL.of (s _ _ h)) (dpAll_ints ds), .lst (SqL.of upd_same) .nil, shaped_ints _, by decide, _, rfl, ?_⟩
  rw [eqv_nil_ints]
  exact k _ s
theorem ok_law_twice_right (T : Txt K mg) : FnOk P w K mg base CX0 5 (He.fAd K ("_law_twice_right", none)) (fdOf K ("_law_twice_right", none)) ["well"] (sp_right 20) := by
  refine ok0 T.d_law_twice_right sc_law_twice_right (fun vs H Q E h => ?_) (fun cdv A outer s H vs Q E hr h => ?_)
  · obtain ⟨a, c, n, rfl, _⟩ := h
    rfl
  · obtain ⟨a, c, n, rfl, hw, hn, k⟩ := h
    have nd := sc_law_twice_right.nd
    refine ⟨_, (pss_cons (ps_setN 1 nd (pe_lc (own := [("turn", 4)]) rfl nd (pi_range1 rfl T.n_range (pa_cons (pcall (ok_law_pail T) hr (by decide) T.c_law_pail pass0 (pa_cons (pv 0) (pa_cons pe_int pa_nil))) pa_nil)) (blk_k (by kernel_rfl)) (fun _ _ _ _ _ => (pgn 4 nd)) (fun _ _ _ _ _ => pts_nil) (fun _ _ _ _ _ => (pcall (ok_law_pail T) hr (by decide) T.c_law_pail pass0 (pa_cons (pv 0) (pa_cons pe_int pa_nil))))))
    (pss_cons (ps_setLc (i := 2) (own := [("number", 5)]) rfl nd rfl rfl (sw_true rfl rfl rfl (by decide +kernel)) (pi_list (pv 1)) (blk_k (by kernel_rfl)) (fun _ _ _ _ _ => (pgn 5 nd)) (fun _ _ _ _ _ => pts_nil) (fun _ _ _ _ _ => (pe_tup (pa_cons (pe_callTy call_int1 rfl T.n_int (by decide +kernel) (pa_cons (pe_op op_fdiv (pv 5) pe_int) pa_nil)) (pa_cons (pv 5) pa_nil)))))
    (pss_cons (ps_setLc (i := 3) (own := [("at", 6), ("number", 5)]) rfl nd rfl rfl (sw_true rfl rfl rfl (by decide +kernel)) (pi_enum rfl T.n_enumerate (pa_cons (pv 1) pa_nil)) (blk_k (by kernel_rfl)) (fun _ _ _ _ _ => (kpgt2 6 5 K rfl nd)) (fun _ _ _ _ _ => (pts_one (pt_cmpR (kop_in_seq K) (pv 5) (pe_slice (ksl_list K) (pv 1) po_none (po_some (pv 6))) (by rfl)))) (fun _ _ _ _ _ => (pv 6)))
    (pss_cons (ps_if (pt_cmpR op_ne (pcallN0 (ok_ft1 T) hr (by decide) T.c_first_twice T.k_first_twice_0_values pass0 (pk_cons (pv 1) pk_nil)) (pe_ifExp (pt_cmpR (op_neD hr.units) (pv 3) (pe_lst pa_nil) (nomark _)) (pe_ix ix_list (pv 1) (pe_ix ix_list (pv 3) pe_int (fun _ _ => rfl)) (fun _ _ => rfl)) pe_non) (nomark _)) (pss_one (ps_ret pe_bl)) pss_nil)
    (pss_cons (ps_if (PW.pt (pw_or (pt_cmpR (op_neD hr.units) (pcall (ok_ft2 T) hr (by decide) T.c_first_twice pass0 (pa_cons (pe_callTy call_tuple_of rfl T.n_tuple (by decide +kernel) (pa_cons (pv 2) pa_nil)) pa_nil)) (pe_ifExp (pt_cmpR (op_neD hr.units) (pv 3) (pe_lst pa_nil) (nomark _)) (pe_ix ix_list (pv 2) (pe_ix ix_list (pv 3) pe_int (fun _ _ => rfl)) (fun _ _ => rfl)) pe_non) (nomark _)) (pw_or1 (pt_cmpR op_notN (pcall (ok_ft1 T) hr (by decide) T.c_first_twice pass0 (pa_cons (pe_lst pa_nil) pa_nil)) pe_non (nomark _))))) (pss_one (ps_ret pe_bl)) pss_nil)
    (pss_one (ps_ret (pe_cmpR op_eq (pcall (ok_ft1 T) hr (by decide) T.c_first_twice pass0 (pa_cons (pe_lc (own := [("number", 5)]) rfl nd (pi_list (pv 1)) (blk_k (by kernel_rfl)) (fun _ _ _ _ _ => (pgn 5 nd)) (fun _ _ _ _ _ => pts_nil) (fun _ _ _ _ _ => (pe_un un_neg (pv 5)))) pa_nil)) (pe_ifExp (pt_cmpR (op_neD hr.units) (pv 3) (pe_lst pa_nil) (nomark _)) (pe_un un_neg (pe_ix ix_list (pv 1) (pe_ix ix_list (pv 3) pe_int (fun _ _ => rfl)) (fun _ _ => rfl))) pe_non) (nomark _))))))))), ?_⟩
    refine ⟨_, rfl, a, c, _, n, rfl, hw, by omega, by decide, by decide, fun m H1 m0 m1 k1 hw1 => ⟨_, rfl, by omega, by omega, fun D hD => ?_⟩⟩
    have nD := ne_a hw1 (Same.refl _) hD
    have nDc := ne_c hw1 (Same.refl _) hD
    refine lc_range (lo := 0) (n := m.toNat) (fun i H' => ∃ ns : List Int, H' D = some (.lst (ns.map V.int)) ∧ ns.length = i ∧ Kp a H1 H' ∧ WellAt H' a c (n + 1 + i)) ⟨[], upd_same, rfl, kp_same (same_new hD), hw1.kp (same_new hD)⟩ (fun i H' hi ⟨ns, e1, e2, e3, e4⟩ => ?_) (fun H2 ⟨ns, e1, e2, e3, e4⟩ => ?_)
    · refine ⟨rfl, _, rfl, a, c, _, n + 1 + i, rfl, e4, by omega, by decide, by decide, fun r H4 r0 r1 k4 hw4 => ⟨_, k4 _ _ nD e1, ?_, ns ++ [r], ?_, ?_, ?_, hw4.other nD nDc⟩⟩
      · rw [List.length_map]; exact szl (by omega)
      · rw [List.map_append]; exact upd_same
      · rw [List.length_append, e2]; rfl
      · intro b o nb e
        rw [upd_ne (ne_of_none e hD)]
        exact k4 _ _ nb (e3 _ _ nb e)
    have hz : ns.length ≤ 8 := by omega
    have K2 := k1.trans e3
    have fin : ∀ H', Same H2 H' → Q (.bl true) H' := fun H' s' => k H' (K2.trans (kp_same s')) ((e4.kp s').mono (by omega))
    -- pairs
    refine ⟨_, rfl, D, rfl, ⟨_, SqL.of e1⟩, fun D2 hD2 => lc_list (xs := ns.map V.int) (fun i H' => ∃ ps, H' D2 = some (.lst (ps.map V.ref)) ∧ TupsAt H' ps ((ns.take i).map pairV) ∧ Same H2 H') ⟨[], upd_same, .nil, same_new hD2⟩ (fun i H' _ ⟨_, _, _, q⟩ => q.seq (SqL.of e1)) (fun i x H' hi ⟨ps, hq, hT, sx⟩ => ?_) (fun H3 ⟨ps, hq, hT, s3⟩ => ?_)⟩
    · obtain ⟨z, hz2, rfl⟩ : ∃ z, ns[i]? = some z ∧ x = V.int z := by
        rw [List.getElem?_map] at hi
        cases e : ns[i]? with
        | none => rw [e] at hi; cases hi
        | some b => rw [e] at hi; exact ⟨b, rfl, (Option.some.inj hi).symm⟩
      refine ⟨rfl, _, rfl, _, _, rfl, rfl, ⟨by decide, by decide⟩, .inl ⟨_, rfl, _, rfl, two_sz, fun q hq0 => ?_⟩⟩
      have hlt := (List.getElem?_eq_some_iff.mp hz2).1
      have s4 := same_new (o := .tup [V.int (z / 3), V.int z]) hq0
      refine ⟨_, s4 _ _ hq, ?_, ps ++ [q], ?_, ?_, ?_⟩
      · rw [List.length_map, TupsAt.len hT, List.length_map]
        refine szl ?_
        have := List.length_take_le i ns
        omega
      · rw [List.map_append]; exact upd_same
      · have tk : (ns.take (i + 1)).map pairV = (ns.take i).map pairV ++ [pairV z] := by rw [List.take_succ, hz2, List.map_append]; rfl
        rw [tk]
        have nq : q ≠ D2 := fun z => by rw [z, hq] at hq0; cases hq0
        refine TupsAt.snoc (by rw [upd_ne nq]; exact upd_same) ?_
        refine Paired.mapP hT fun b ys e => ?_
        have nb : b ≠ D2 := fun z => by rw [z, hq] at e; cases e
        rw [upd_ne nb]; exact s4 _ _ e
      · intro b o e
        rw [upd_ne (ne_of_none e hD2)]
        exact s4 _ _ (sx _ _ e)
    rw [List.length_map, List.take_length] at hT
    have e1b := s3 _ _ e1
    -- due
    refine ⟨_, rfl, D, _, rfl, SqL.of e1b, fun D3 hD3 => lc_it (walk_enum (xs := ns.map V.int)) (fun i H' => H' D3 = some (.lst ((dueI ns i).map fun (j : Nat) => V.int (j : Int))) ∧ Same H3 H') ⟨upd_same, same_new hD3⟩ (fun i H' _ p => p.2.seq (SqL.of e1b)) (fun i x H' H'' hi p y => ?_) (fun H4 p => ?_)⟩
    · obtain ⟨p1, p2⟩ := p
      obtain ⟨T0, x1, x2, rfl, hT0, rfl, y1, y2⟩ := y
      have y1' : x1 = .int (i : Nat) := (Option.some.inj y1).symm
      subst y1'
      obtain ⟨z, hz2, rfl⟩ : ∃ z, ns[i]? = some z ∧ x2 = V.int z := by
        have y2 : (ns.map V.int)[i]? = some x2 := y2
        rw [List.getElem?_map] at y2
        cases e : ns[i]? with
        | none => rw [e] at y2; cases y2
        | some b => rw [e] at y2; exact ⟨b, rfl, (Option.some.inj y2).symm⟩
      have s5 := same_new (o := .tup [V.int (i : Nat), V.int z]) hT0
      refine ⟨T0, _, rfl, SqT.of upd_same, rfl, _, _, rfl, _, _, rfl, rfl, rfl, ?_⟩
      refine ⟨_, rfl, _, rfl, _, rfl, _, rfl, _, _, rfl, SqL.of (s5 _ _ (p2 _ _ e1b)), fun q hq0 => ?_⟩
      rw [cut_to]
      have s6 := same_new (o := .lst ((ns.take i).map V.int)) hq0
      refine ⟨q, _, rfl, .inl (SqL.of upd_same), rfl, flat_ints _, _, rfl, ?_⟩
      have s46 : Same H' (upd (upd H' T0 (.tup [V.int (i : Nat), V.int z])) q (.lst ((ns.take i).map V.int))) := s5.trans s6
      have ein : (if false = true then !inV (V.int z) ((ns.take i).map V.int) else inV (V.int z) ((ns.take i).map V.int)) = decide (z ∈ ns.take i) := by
        rw [if_neg (by decide)]; exact inV_ints z _
      rw [ein]
      refine iteS (fun hb => ?_) (fun hb => ?_)
      · have hm : z ∈ ns.take i := of_decide_eq_true hb
        refine ⟨_, rfl, _, s46 _ _ p1, ?_, ?_, ?_⟩
        · rw [List.length_map]
          refine szl ?_
          have h1 : (dueI ns i).length ≤ i := by
            unfold dueI
            refine Nat.le_trans (List.length_filter_le _ _) ?_
            rw [List.length_range]
            exact Nat.le_refl _
          rw [List.length_map] at hi
          omega
        · rw [dueI_yes hz2 hm, List.map_append]
          exact upd_same
        · intro b o e
          rw [upd_ne (ne_of_none e hD3)]
          exact s46 _ _ (p2 _ _ e)
      · have hm : z ∉ ns.take i := of_decide_eq_false hb
        rw [dueI_no hz2 hm]
        exact ⟨s46 _ _ p1, p2.trans s46⟩
    obtain ⟨p1, s4⟩ := p
    rw [List.length_map] at p1
    have s24 := s3.trans s4
    have e1c := s24 _ _ e1
    have eps := s4 _ _ hq
    have hT4 := hT.same s4
    clear hT hq hD2 hD3
    -- first_twice(values=numbers)
    refine ⟨_, rfl, rfl, rfl, D, ns, rfl, .inl e1c, by omega, fun H5 s5 => ?_⟩
    have hz1000 : ns.length ≤ 1000 := by omega
    have hTy : TupsAt H4 ps ((ns.map fun n => [n / 3, n]).map fun ys => ys.map V.int) := by rw [← pairs_int]; exact hT4
    have ly : ∀ ys ∈ (ns.map fun n => [n / 3, n]), ys.length ≤ 1000 := fun ys hy => by
      obtain ⟨z, _, rfl⟩ := List.mem_map.mp hy
      show 2 ≤ 1000
      omega
    have lp : ps.length ≤ 1000 := by
      have := TupsAt.len hTy
      rw [List.length_map, List.length_map] at this
      omega
    have fy : ftw [] (ns.map fun n => [n / 3, n]) = (ftw [] ns).map fun n => [n / 3, n] := ftw_map (fun n : Int => [n / 3, n]) (fun a b e => by simp at e; exact e.2) ns []
    have fn : ftw [] (ns.map fun n => -n) = (ftw [] ns).map fun n => -n := ftw_map (fun n : Int => -n) (fun a b e => by omega) ns []
    have dI : ((dueI ns ns.length).map fun (j : Nat) => V.int (j : Int)) = ((dueI ns ns.length).map fun (j : Nat) => (j : Int)).map V.int := by rw [List.map_map]; rfl
    rw [dI] at p1
    rcases dueV (ns := ns) with ⟨hd, hf⟩ | ⟨j, r, x, hd, hj, hf⟩
    · rw [hd] at p1
      rw [hf]
      refine due_test rfl (s5 _ _ p1) fun H6 s6 => iteF ⟨rfl, false, non_ne, iteF ?_⟩
      refine ⟨_, rfl, D2, _, rfl, .inl ⟨SqL.of (s6 _ _ (s5 _ _ eps)), fun l hl => ?_⟩⟩
      have s7 := (s5.trans s6).trans (same_new (o := .tup (ps.map V.ref)) hl)
      refine ⟨l, ps, _, rfl, upd_same, hTy.same s7, ly, lp, fun _ H8 s8 => ?_, fun ys p H' e => ?_⟩
      rotate_left
      · rw [fy, hf] at e; cases e
      have s48 := s7.trans s8
      refine due_test rfl (s48 _ _ p1) fun H9 s9 => iteF ⟨_, _, .non, .non, rfl, rfl, false, rfl, iteF ?_⟩
      refine ⟨by decide, fun q hq => ⟨q, [], rfl, .inl upd_same, by decide, fun H10 s10 => ⟨rfl, false, non_ne, iteF ?_⟩⟩⟩
      have s410 := ((s48.trans s9).trans (same_new hq)).trans s10
      refine ⟨_, rfl, D, rfl, ⟨_, SqL.of (s410 _ _ e1c)⟩, fun D5 hD5 => lc_pureL negV (SqL.of (s410 _ _ e1c)) hD5 (by rw [List.length_map]; omega) (fun y H' Qk Qs hy s' yes no => ?_) (fun H' s' hN => ?_)⟩
      · obtain ⟨z, _, rfl⟩ := List.mem_map.mp hy
        exact ⟨rfl, _, rfl, _, rfl, yes _ _ rfl (Same.refl _)⟩
      rw [neg_map] at hN
      refine ⟨D5, ns.map fun n => -n, rfl, .inl hN, by rw [List.length_map]; omega, fun H11 s11 => ?_⟩
      rw [fn, hf]
      have s411 := (s410.trans s').trans s11
      exact due_test rfl (s411 _ _ p1) fun H12 s12 => iteF ⟨rfl, non_eq _ (fin _ ((s24.trans s411).trans s12))⟩
    · rw [hd] at p1
      rw [hf]
      have hj2 : (ns.map V.int)[j]? = some (.int x) := by rw [List.getElem?_map, hj]; rfl
      refine due_test rfl (s5 _ _ p1) fun H6 s6 => iteT ?_
      have s46 := s5.trans s6
      refine ⟨_, rfl, _, rfl, _, _, _, _, rfl, rfl, SqL.of (s46 _ _ p1), at_nat (j := 0) rfl rfl, _, _, _, _, rfl, rfl, SqL.of (s46 _ _ e1c), atI_nat hj2, rfl, false, int_ne x, iteF ?_⟩
      refine ⟨_, rfl, D2, _, rfl, .inl ⟨SqL.of (s46 _ _ eps), fun l hl => ?_⟩⟩
      have s7 := s46.trans (same_new (o := .tup (ps.map V.ref)) hl)
      refine ⟨l, ps, _, rfl, upd_same, hTy.same s7, ly, lp, fun e => ?_, fun ys p H8 e s8 hp => ?_⟩
      · rw [fy, hf] at e; cases e
      rw [fy, hf] at e
      cases e
      have s48 := s7.trans s8
      refine due_test rfl (s48 _ _ p1) fun H9 s9 => iteT ?_
      have s49 := s48.trans s9
      obtain ⟨pj, hpj, hpt⟩ : ∃ pj, ps[j]? = some pj ∧ H4 pj = some (.tup ([x / 3, x].map V.int)) := by
        have hlt : j < ps.length := by
          have h1 := TupsAt.len hT4
          rw [List.length_map] at h1
          have h2 := (List.getElem?_eq_some_iff.mp hj).1
          omega
        have hp0 : ps[j]? = some ps[j] := List.getElem?_eq_getElem hlt
        obtain ⟨ys, hy, hq⟩ := TupsAt.get hT4 hp0
        rw [List.getElem?_map, hj] at hy
        cases hy
        exact ⟨_, hp0, hq⟩
      have hps : (ps.map V.ref)[j]? = some (.ref pj) := by rw [List.getElem?_map, hpj]; rfl
      refine ⟨_, rfl, _, rfl, _, _, _, _, rfl, rfl, SqL.of (s49 _ _ p1), at_nat (j := 0) rfl rfl, _, _, _, _, rfl, rfl, SqL.of (s49 _ _ eps), atI_nat hps, ?_⟩
      refine ⟨.tuple ([x / 3, x].map PyData.int), .tuple ([x / 3, x].map PyData.int), .tup (SqT.of (s9 _ _ hp)) (.cons (.int _) (.cons (.int _) .nil)), .tup (SqT.of (s49 _ _ hpt)) (.cons (.int _) (.cons (.int _) .nil)), shaped_intsT _, shaped_intsT _, false, pair_eqv _ _, iteF ?_⟩
      refine ⟨by decide, fun q hq => ⟨q, [], rfl, .inl upd_same, by decide, fun H10 s10 => ⟨rfl, false, non_ne, iteF ?_⟩⟩⟩
      have s410 := (s49.trans (same_new hq)).trans s10
      refine ⟨_, rfl, D, rfl, ⟨_, SqL.of (s410 _ _ e1c)⟩, fun D5 hD5 => lc_pureL negV (SqL.of (s410 _ _ e1c)) hD5 (by rw [List.length_map]; omega) (fun y H' Qk Qs hy s' yes no => ?_) (fun H' s' hN => ?_)⟩
      · obtain ⟨z, _, rfl⟩ := List.mem_map.mp hy
        exact ⟨rfl, _, rfl, _, rfl, yes _ _ rfl (Same.refl _)⟩
      rw [neg_map] at hN
      refine ⟨D5, ns.map fun n => -n, rfl, .inl hN, by rw [List.length_map]; omega, fun H11 s11 => ?_⟩
      rw [fn, hf]
      have s411 := (s410.trans s').trans s11
      refine due_test rfl (s411 _ _ p1) fun H12 s12 => iteT ?_
      have s412 := s411.trans s12
      exact ⟨_, rfl, _, rfl, _, _, _, _, rfl, rfl, SqL.of (s412 _ _ p1), at_nat (j := 0) rfl rfl, _, _, _, _, rfl, rfl, SqL.of (s412 _ _ e1c), atI_nat hj2, _, rfl, rfl, int_eq _ (fin _ (s24.trans s412))⟩
def sp_law (K : PySem.W.Frag) : Sp := fun vs H Q _ => ∃ (a : Addr) (ns : List Int), vs = [.ref a] ∧ SqL K H a (ns.map V.int) ∧ ns.length ≤ 63 ∧ ∀ H', Q (.bl true) H'
theorem ok_law (T : Txt K mg) : FnG P w K mg base CX0 6 (He.fAd K ("law", none)) (fdOf K ("law", none)) ["script"] (sp_law K) := by
  refine ok0G T.d_law sc_law (fun vs H Q E h => ?_) (fun cdv A outer s H vs Q E hgd hr h => ?_)
  · obtain ⟨a, ns, rfl, _⟩ := h
    rfl
  · obtain ⟨a, ns, rfl, hS, hz, k⟩ := h
    have nd := sc_law.nd
    refine ⟨_, (pss_cons (ps_setN 1 nd (pcall (ok_law_well T) hr (by decide) T.c_law_well pass0 (pa_cons (pv 0) pa_nil)))
    (pss_cons (ps_for PassesOwn.never rfl (pi_range1 rfl T.n_range (pa_cons pe_int pa_nil)) (pgn 2 nd) (pss_one (ps_if (PW.pt (pw_or (pt_not (pt_val (pcall (ok_law_bounds_right T) hr (by decide) T.c_law_bounds_right pass0 (pa_cons (pv 1) pa_nil)))) (pw_or (pt_not (pt_val (pcall (ok_law_rows_right T) hr (by decide) T.c_law_rows_right pass0 (pa_cons (pv 1) pa_nil)))) (pw_or (pt_not (pt_val (pcallG (ok_law_signs_right T) hgd hr (by decide) T.c_law_signs_right pass0 (pa_cons (pv 1) pa_nil)))) (pw_or1 (pt_not (pt_val (pcall (ok_law_twice_right T) hr (by decide) T.c_law_twice_right pass0 (pa_cons (pv 1) pa_nil))))))))) (pss_one (ps_ret pe_bl)) pss_nil)))
    (pss_one (ps_ret pe_bl)))), ?_⟩
    refine ⟨_, rfl, a, ns, rfl, hS, hz, fun p c H1 hp s1 hw => ?_⟩
    refine ⟨4, rfl, by decide, by decide, for_range (lo := 0) (n := 4) (fun i σ H' => ∃ v : Option V, σ = [some (.ref a), some (.ref p), v] ∧ WellAt H' p c (60 * i)) ⟨none, rfl, hw⟩ ?_ ?_⟩
    · rintro i σ H2 hi ⟨v, rfl, hw2⟩
      refine ⟨_, rfl, p, c, _, rfl, hw2, by omega, fun H3 _ hw3 => ⟨_, rfl, iteF ?_⟩⟩
      refine ⟨_, rfl, p, c, _, rfl, hw3, by omega, fun H4 _ hw4 => ⟨_, rfl, iteF ?_⟩⟩
      refine ⟨_, rfl, p, c, _, rfl, hw4, by omega, fun H5 _ hw5 => ⟨_, rfl, iteF ?_⟩⟩
      refine ⟨_, rfl, p, c, _, rfl, hw5, by omega, fun H6 _ hw6 => ⟨_, rfl, iteF ?_⟩⟩
      exact ⟨_, rfl, hw6.mono (by omega)⟩
    · rintro σ H2 ⟨v, rfl, _⟩
      exact k _
end
def dd_is_integer : He.DefD := ⟨("is_integer", none), "is_integer", "is_integer", defArgs s_is_integer, defBody s_is_integer, defScope s_is_integer, [], []⟩
def dd_is_within : He.DefD := ⟨("is_within", none), "is_within", "is_within", defArgs s_is_within, defBody s_is_within, defScope s_is_within, [], []⟩
def dd_is_numbers : He.DefD := ⟨("is_numbers", none), "is_numbers", "is_numbers", defArgs s_is_numbers, defBody s_is_numbers, defScope s_is_numbers, [], []⟩
def dd_is_prime : He.DefD := ⟨("is_prime", none), "is_prime", "is_prime", defArgs s_is_prime, defBody s_is_prime, defScope s_is_prime, [], []⟩
def dd_is_sign : He.DefD := ⟨("is_sign", none), "is_sign", "is_sign", defArgs s_is_sign, defBody s_is_sign, defScope s_is_sign, [], []⟩
def dd_as_tuples : He.DefD := ⟨("as_tuples", none), "as_tuples", "as_tuples", defArgs s_as_tuples, defBody s_as_tuples, defScope s_as_tuples, [], []⟩
def dd_first_twice : He.DefD := ⟨("first_twice", none), "first_twice", "first_twice", defArgs s_first_twice, defBody s_first_twice, defScope s_first_twice, [], []⟩
def dd_law_well : He.DefD := ⟨("_law_well", none), "_law_well", "_law_well", defArgs s_law_well, defBody s_law_well, defScope s_law_well, [], []⟩
def dd_law_pail : He.DefD := ⟨("_law_pail", none), "_law_pail", "_law_pail", defArgs s_law_pail, defBody s_law_pail, defScope s_law_pail, [], []⟩
def dd_law_of : He.DefD := ⟨("_law_of", none), "_law_of", "_law_of", defArgs s_law_of, defBody s_law_of, defScope s_law_of, [], []⟩
def dd_law_odd : He.DefD := ⟨("_law_odd", none), "_law_odd", "_law_odd", defArgs s_law_odd, defBody s_law_odd, defScope s_law_odd, [], []⟩
def dd_law_bounds_right : He.DefD := ⟨("_law_bounds_right", none), "_law_bounds_right", "_law_bounds_right", defArgs s_law_bounds_right, defBody s_law_bounds_right, defScope s_law_bounds_right, [], []⟩
def dd_law_rows_right : He.DefD := ⟨("_law_rows_right", none), "_law_rows_right", "_law_rows_right", defArgs s_law_rows_right, defBody s_law_rows_right, defScope s_law_rows_right, [], []⟩
def dd_law_primes : He.DefD := ⟨("_law_primes", none), "_law_primes", "_law_primes", defArgs s_law_primes, defBody s_law_primes, defScope s_law_primes, [], []⟩
def dd_law_signs_right : He.DefD := ⟨("_law_signs_right", none), "_law_signs_right", "_law_signs_right", defArgs s_law_signs_right, defBody s_law_signs_right, defScope s_law_signs_right, [], []⟩
def dd_law_twice_right : He.DefD := ⟨("_law_twice_right", none), "_law_twice_right", "_law_twice_right", defArgs s_law_twice_right, defBody s_law_twice_right, defScope s_law_twice_right, [], []⟩
def dd_law : He.DefD := ⟨("law", none), "law", "law", defArgs s_law, defBody s_law, defScope s_law, [], []⟩
def fa_0 : List He.Fa := [.glo "is_integer", .glo "is_within", .glo "is_numbers", .glo "is_prime", .glo "is_sign", .glo "as_tuples", .glo "first_twice", .glo "_law_well", .glo "_law_pail", .glo "_law_of", .glo "_law_odd", .glo "_law_bounds_right", .glo "_law_rows_right", .glo "_law_primes", .glo "_law_signs_right", .glo "_law_twice_right", .glo "law", .free "isinstance", .free "int", .free "bool", .free "all", .free "list", .free "tuple", .free "len", .free "abs", .free "range", .free "repr", .free "enumerate", .glo "PRIMES"]
def fn_0 : List He.DefD := [dd_is_integer, dd_is_within, dd_is_numbers, dd_is_prime, dd_is_sign, dd_as_tuples, dd_first_twice, dd_law_well, dd_law_pail, dd_law_of, dd_law_odd, dd_law_bounds_right, dd_law_rows_right, dd_law_primes, dd_law_signs_right, dd_law_twice_right, dd_law]
def fa : List He.Fa := fa_0
def fn : List He.DefD := fn_0
def exs (K : PySem.W.Frag) : List Bool := [He.tupB K "PRIMES" [.int 2, .int 3, .int 5, .int 7, .int 11, .int 13, .int 17, .int 19, .int 23, .int 29, .int 31, .int 37, .int 41, .int 43, .int 47, .int 53, .int 59, .int 61, .int 67, .int 71, .int 73, .int 79, .int 83, .int 89, .int 97]]
theorem txt_of {K : PySem.W.Frag} {h : Heap} {mg : Str → Option Value} (X : K.In h) (G : h.Ns mainGlobals mg) (c : SaysZ fa fn exs K) : Txt K mg := by
  have d_is_integer : FunD K "is_integer" "is_integer" (defArgs s_is_integer) (defBody s_is_integer) (defScope s_is_integer) [] [] (He.fAd K ("is_integer", none)) (fdOf K ("is_integer", none)) := by
    obtain ⟨fd, F⟩ := c.1.def_ 0 (d := dd_is_integer) rfl
    exact fdOf_eq F
  have d_is_within : FunD K "is_within" "is_within" (defArgs s_is_within) (defBody s_is_within) (defScope s_is_within) [] [] (He.fAd K ("is_within", none)) (fdOf K ("is_within", none)) := by
    obtain ⟨fd, F⟩ := c.1.def_ 1 (d := dd_is_within) rfl
    exact fdOf_eq F
  have d_is_numbers : FunD K "is_numbers" "is_numbers" (defArgs s_is_numbers) (defBody s_is_numbers) (defScope s_is_numbers) [] [] (He.fAd K ("is_numbers", none)) (fdOf K ("is_numbers", none)) := by
    obtain ⟨fd, F⟩ := c.1.def_ 2 (d := dd_is_numbers) rfl
    exact fdOf_eq F
  have d_is_prime : FunD K "is_prime" "is_prime" (defArgs s_is_prime) (defBody s_is_prime) (defScope s_is_prime) [] [] (He.fAd K ("is_prime", none)) (fdOf K ("is_prime", none)) := by
    obtain ⟨fd, F⟩ := c.1.def_ 3 (d := dd_is_prime) rfl
    exact fdOf_eq F
  have d_is_sign : FunD K "is_sign" "is_sign" (defArgs s_is_sign) (defBody s_is_sign) (defScope s_is_sign) [] [] (He.fAd K ("is_sign", none)) (fdOf K ("is_sign", none)) := by
    obtain ⟨fd, F⟩ := c.1.def_ 4 (d := dd_is_sign) rfl
    exact fdOf_eq F
  have d_as_tuples : FunD K "as_tuples" "as_tuples" (defArgs s_as_tuples) (defBody s_as_tuples) (defScope s_as_tuples) [] [] (He.fAd K ("as_tuples", none)) (fdOf K ("as_tuples", none)) := by
    obtain ⟨fd, F⟩ := c.1.def_ 5 (d := dd_as_tuples) rfl
    exact fdOf_eq F
  have d_first_twice : FunD K "first_twice" "first_twice" (defArgs s_first_twice) (defBody s_first_twice) (defScope s_first_twice) [] [] (He.fAd K ("first_twice", none)) (fdOf K ("first_twice", none)) := by
    obtain ⟨fd, F⟩ := c.1.def_ 6 (d := dd_first_twice) rfl
    exact fdOf_eq F
  have d_law_well : FunD K "_law_well" "_law_well" (defArgs s_law_well) (defBody s_law_well) (defScope s_law_well) [] [] (He.fAd K ("_law_well", none)) (fdOf K ("_law_well", none)) := by
    obtain ⟨fd, F⟩ := c.1.def_ 7 (d := dd_law_well) rfl
    exact fdOf_eq F
  have d_law_pail : FunD K "_law_pail" "_law_pail" (defArgs s_law_pail) (defBody s_law_pail) (defScope s_law_pail) [] [] (He.fAd K ("_law_pail", none)) (fdOf K ("_law_pail", none)) := by
    obtain ⟨fd, F⟩ := c.1.def_ 8 (d := dd_law_pail) rfl
    exact fdOf_eq F
  have d_law_of : FunD K "_law_of" "_law_of" (defArgs s_law_of) (defBody s_law_of) (defScope s_law_of) [] [] (He.fAd K ("_law_of", none)) (fdOf K ("_law_of", none)) := by
    obtain ⟨fd, F⟩ := c.1.def_ 9 (d := dd_law_of) rfl
    exact fdOf_eq F
  have d_law_odd : FunD K "_law_odd" "_law_odd" (defArgs s_law_odd) (defBody s_law_odd) (defScope s_law_odd) [] [] (He.fAd K ("_law_odd", none)) (fdOf K ("_law_odd", none)) := by
    obtain ⟨fd, F⟩ := c.1.def_ 10 (d := dd_law_odd) rfl
    exact fdOf_eq F
  have d_law_bounds_right : FunD K "_law_bounds_right" "_law_bounds_right" (defArgs s_law_bounds_right) (defBody s_law_bounds_right) (defScope s_law_bounds_right) [] [] (He.fAd K ("_law_bounds_right", none)) (fdOf K ("_law_bounds_right", none)) := by
    obtain ⟨fd, F⟩ := c.1.def_ 11 (d := dd_law_bounds_right) rfl
    exact fdOf_eq F
  have d_law_rows_right : FunD K "_law_rows_right" "_law_rows_right" (defArgs s_law_rows_right) (defBody s_law_rows_right) (defScope s_law_rows_right) [] [] (He.fAd K ("_law_rows_right", none)) (fdOf K ("_law_rows_right", none)) := by
    obtain ⟨fd, F⟩ := c.1.def_ 12 (d := dd_law_rows_right) rfl
    exact fdOf_eq F
  have d_law_primes : FunD K "_law_primes" "_law_primes" (defArgs s_law_primes) (defBody s_law_primes) (defScope s_law_primes) [] [] (He.fAd K ("_law_primes", none)) (fdOf K ("_law_primes", none)) := by
    obtain ⟨fd, F⟩ := c.1.def_ 13 (d := dd_law_primes) rfl
    exact fdOf_eq F
  have d_law_signs_right : FunD K "_law_signs_right" "_law_signs_right" (defArgs s_law_signs_right) (defBody s_law_signs_right) (defScope s_law_signs_right) [] [] (He.fAd K ("_law_signs_right", none)) (fdOf K ("_law_signs_right", none)) := by
    obtain ⟨fd, F⟩ := c.1.def_ 14 (d := dd_law_signs_right) rfl
    exact fdOf_eq F
  have d_law_twice_right : FunD K "_law_twice_right" "_law_twice_right" (defArgs s_law_twice_right) (defBody s_law_twice_right) (defScope s_law_twice_right) [] [] (He.fAd K ("_law_twice_right", none)) (fdOf K ("_law_twice_right", none)) := by
    obtain ⟨fd, F⟩ := c.1.def_ 15 (d := dd_law_twice_right) rfl
    exact fdOf_eq F
  have d_law : FunD K "law" "law" (defArgs s_law) (defBody s_law) (defScope s_law) [] [] (He.fAd K ("law", none)) (fdOf K ("law", none)) := by
    obtain ⟨fd, F⟩ := c.1.def_ 16 (d := dd_law) rfl
    exact fdOf_eq F
  have c_is_integer : CallD K mg "is_integer" (He.fAd K ("is_integer", none)) (fdOf K ("is_integer", none)) ["value"] := ⟨He.glo_ok X G (c.1.fact 0 (f := .glo "is_integer") rfl), d_is_integer.kp, d_is_integer.bindsN fun _ _ _ _ _ _ us hl => match us, hl with | [_], _ => rfl⟩
  have c_is_within : CallD K mg "is_within" (He.fAd K ("is_within", none)) (fdOf K ("is_within", none)) ["value", "least", "most"] := ⟨He.glo_ok X G (c.1.fact 1 (f := .glo "is_within") rfl), d_is_within.kp, d_is_within.bindsN fun _ _ _ _ _ _ us hl => match us, hl with | [_, _, _], _ => rfl⟩
  have c_is_numbers : CallD K mg "is_numbers" (He.fAd K ("is_numbers", none)) (fdOf K ("is_numbers", none)) ["value"] := ⟨He.glo_ok X G (c.1.fact 2 (f := .glo "is_numbers") rfl), d_is_numbers.kp, d_is_numbers.bindsN fun _ _ _ _ _ _ us hl => match us, hl with | [_], _ => rfl⟩
  have c_is_prime : CallD K mg "is_prime" (He.fAd K ("is_prime", none)) (fdOf K ("is_prime", none)) ["value"] := ⟨He.glo_ok X G (c.1.fact 3 (f := .glo "is_prime") rfl), d_is_prime.kp, d_is_prime.bindsN fun _ _ _ _ _ _ us hl => match us, hl with | [_], _ => rfl⟩
  have c_is_sign : CallD K mg "is_sign" (He.fAd K ("is_sign", none)) (fdOf K ("is_sign", none)) ["p", "value"] := ⟨He.glo_ok X G (c.1.fact 4 (f := .glo "is_sign") rfl), d_is_sign.kp, d_is_sign.bindsN fun _ _ _ _ _ _ us hl => match us, hl with | [_, _], _ => rfl⟩
  have c_as_tuples : CallD K mg "as_tuples" (He.fAd K ("as_tuples", none)) (fdOf K ("as_tuples", none)) ["value"] := ⟨He.glo_ok X G (c.1.fact 5 (f := .glo "as_tuples") rfl), d_as_tuples.kp, d_as_tuples.bindsN fun _ _ _ _ _ _ us hl => match us, hl with | [_], _ => rfl⟩
  have c_first_twice : CallD K mg "first_twice" (He.fAd K ("first_twice", none)) (fdOf K ("first_twice", none)) ["values"] := ⟨He.glo_ok X G (c.1.fact 6 (f := .glo "first_twice") rfl), d_first_twice.kp, d_first_twice.bindsN fun _ _ _ _ _ _ us hl => match us, hl with | [_], _ => rfl⟩
  have c_law_well : CallD K mg "_law_well" (He.fAd K ("_law_well", none)) (fdOf K ("_law_well", none)) ["script"] := ⟨He.glo_ok X G (c.1.fact 7 (f := .glo "_law_well") rfl), d_law_well.kp, d_law_well.bindsN fun _ _ _ _ _ _ us hl => match us, hl with | [_], _ => rfl⟩
  have c_law_pail : CallD K mg "_law_pail" (He.fAd K ("_law_pail", none)) (fdOf K ("_law_pail", none)) ["well", "many"] := ⟨He.glo_ok X G (c.1.fact 8 (f := .glo "_law_pail") rfl), d_law_pail.kp, d_law_pail.bindsN fun _ _ _ _ _ _ us hl => match us, hl with | [_, _], _ => rfl⟩
  have c_law_of : CallD K mg "_law_of" (He.fAd K ("_law_of", none)) (fdOf K ("_law_of", none)) ["well", "some"] := ⟨He.glo_ok X G (c.1.fact 9 (f := .glo "_law_of") rfl), d_law_of.kp, d_law_of.bindsN fun _ _ _ _ _ _ us hl => match us, hl with | [_, _], _ => rfl⟩
  have c_law_odd : CallD K mg "_law_odd" (He.fAd K ("_law_odd", none)) (fdOf K ("_law_odd", none)) ["well"] := ⟨He.glo_ok X G (c.1.fact 10 (f := .glo "_law_odd") rfl), d_law_odd.kp, d_law_odd.bindsN fun _ _ _ _ _ _ us hl => match us, hl with | [_], _ => rfl⟩
  have c_law_bounds_right : CallD K mg "_law_bounds_right" (He.fAd K ("_law_bounds_right", none)) (fdOf K ("_law_bounds_right", none)) ["well"] := ⟨He.glo_ok X G (c.1.fact 11 (f := .glo "_law_bounds_right") rfl), d_law_bounds_right.kp, d_law_bounds_right.bindsN fun _ _ _ _ _ _ us hl => match us, hl with | [_], _ => rfl⟩
  have c_law_rows_right : CallD K mg "_law_rows_right" (He.fAd K ("_law_rows_right", none)) (fdOf K ("_law_rows_right", none)) ["well"] := ⟨He.glo_ok X G (c.1.fact 12 (f := .glo "_law_rows_right") rfl), d_law_rows_right.kp, d_law_rows_right.bindsN fun _ _ _ _ _ _ us hl => match us, hl with | [_], _ => rfl⟩
  have c_law_primes : CallD K mg "_law_primes" (He.fAd K ("_law_primes", none)) (fdOf K ("_law_primes", none)) [] := ⟨He.glo_ok X G (c.1.fact 13 (f := .glo "_law_primes") rfl), d_law_primes.kp, d_law_primes.bindsN fun _ _ _ _ _ _ us hl => match us, hl with | [], _ => rfl⟩
  have c_law_signs_right : CallD K mg "_law_signs_right" (He.fAd K ("_law_signs_right", none)) (fdOf K ("_law_signs_right", none)) ["well"] := ⟨He.glo_ok X G (c.1.fact 14 (f := .glo "_law_signs_right") rfl), d_law_signs_right.kp, d_law_signs_right.bindsN fun _ _ _ _ _ _ us hl => match us, hl with | [_], _ => rfl⟩
  have c_law_twice_right : CallD K mg "_law_twice_right" (He.fAd K ("_law_twice_right", none)) (fdOf K ("_law_twice_right", none)) ["well"] := ⟨He.glo_ok X G (c.1.fact 15 (f := .glo "_law_twice_right") rfl), d_law_twice_right.kp, d_law_twice_right.bindsN fun _ _ _ _ _ _ us hl => match us, hl with | [_], _ => rfl⟩
  have c_law : CallD K mg "law" (He.fAd K ("law", none)) (fdOf K ("law", none)) ["script"] := ⟨He.glo_ok X G (c.1.fact 16 (f := .glo "law") rfl), d_law.kp, d_law.bindsN fun _ _ _ _ _ _ us hl => match us, hl with | [_], _ => rfl⟩
  have n_isinstance : mg "isinstance" = none := He.free_ok X G (c.1.fact 17 (f := .free "isinstance") rfl)
  have n_int : mg "int" = none := He.free_ok X G (c.1.fact 18 (f := .free "int") rfl)
  have n_bool : mg "bool" = none := He.free_ok X G (c.1.fact 19 (f := .free "bool") rfl)
  have n_all : mg "all" = none := He.free_ok X G (c.1.fact 20 (f := .free "all") rfl)
  have n_list : mg "list" = none := He.free_ok X G (c.1.fact 21 (f := .free "list") rfl)
  have n_tuple : mg "tuple" = none := He.free_ok X G (c.1.fact 22 (f := .free "tuple") rfl)
  have n_len : mg "len" = none := He.free_ok X G (c.1.fact 23 (f := .free "len") rfl)
  have n_abs : mg "abs" = none := He.free_ok X G (c.1.fact 24 (f := .free "abs") rfl)
  have n_range : mg "range" = none := He.free_ok X G (c.1.fact 25 (f := .free "range") rfl)
  have n_repr : mg "repr" = none := He.free_ok X G (c.1.fact 26 (f := .free "repr") rfl)
  have n_enumerate : mg "enumerate" = none := He.free_ok X G (c.1.fact 27 (f := .free "enumerate") rfl)
  have g_PRIMES : mg "PRIMES" = some (.ref (He.ga K "PRIMES")) := He.glo_ok X G (c.1.fact 28 (f := .glo "PRIMES") rfl)
  have t_PRIMES : ∀ H : Hp, SqT K H (He.ga K "PRIMES") [V.int 2, V.int 3, V.int 5, V.int 7, V.int 11, V.int 13, V.int 17, V.int 19, V.int 23, V.int 29, V.int 31, V.int 37, V.int 41, V.int 43, V.int 47, V.int 53, V.int 59, V.int 61, V.int 67, V.int 71, V.int 73, V.int 79, V.int 83, V.int 89, V.int 97] := fun H => He.tupB_ok (exAll c.2 0 rfl) H
  have k_is_within_1_least_most : KBn K (fdOf K ("is_within", none)) ["value", "least", "most"] 1 ["least", "most"] (fun us ws => us ++ prm [0, 1] ws) (fun vs zs => vs ++ prm [0, 1] zs) := kbn0 d_is_within 1 ["least", "most"] (fun us ws => us ++ prm [0, 1] ws) (fun r1 r2 => r1.append (prm_rel r2 _)) fun _ _ _ _ _ _ us ws l1 l2 => match us, ws, l1, l2 with | [_], [_, _], _, _ => rfl
  have k_is_within_0_value_least_most : KBn K (fdOf K ("is_within", none)) ["value", "least", "most"] 0 ["value", "least", "most"] (fun us ws => us ++ prm [0, 1, 2] ws) (fun vs zs => vs ++ prm [0, 1, 2] zs) := kbn0 d_is_within 0 ["value", "least", "most"] (fun us ws => us ++ prm [0, 1, 2] ws) (fun r1 r2 => r1.append (prm_rel r2 _)) fun _ _ _ _ _ _ us ws l1 l2 => match us, ws, l1, l2 with | [], [_, _, _], _, _ => rfl
  have k_is_integer_0_value : KBn K (fdOf K ("is_integer", none)) ["value"] 0 ["value"] (fun us ws => us ++ prm [0] ws) (fun vs zs => vs ++ prm [0] zs) := kbn0 d_is_integer 0 ["value"] (fun us ws => us ++ prm [0] ws) (fun r1 r2 => r1.append (prm_rel r2 _)) fun _ _ _ _ _ _ us ws l1 l2 => match us, ws, l1, l2 with | [], [_], _, _ => rfl
  have k_is_numbers_0_value : KBn K (fdOf K ("is_numbers", none)) ["value"] 0 ["value"] (fun us ws => us ++ prm [0] ws) (fun vs zs => vs ++ prm [0] zs) := kbn0 d_is_numbers 0 ["value"] (fun us ws => us ++ prm [0] ws) (fun r1 r2 => r1.append (prm_rel r2 _)) fun _ _ _ _ _ _ us ws l1 l2 => match us, ws, l1, l2 with | [], [_], _, _ => rfl
  have k_is_sign_0_p_value : KBn K (fdOf K ("is_sign", none)) ["p", "value"] 0 ["p", "value"] (fun us ws => us ++ prm [0, 1] ws) (fun vs zs => vs ++ prm [0, 1] zs) := kbn0 d_is_sign 0 ["p", "value"] (fun us ws => us ++ prm [0, 1] ws) (fun r1 r2 => r1.append (prm_rel r2 _)) fun _ _ _ _ _ _ us ws l1 l2 => match us, ws, l1, l2 with | [], [_, _], _, _ => rfl
  have k_is_prime_0_value : KBn K (fdOf K ("is_prime", none)) ["value"] 0 ["value"] (fun us ws => us ++ prm [0] ws) (fun vs zs => vs ++ prm [0] zs) := kbn0 d_is_prime 0 ["value"] (fun us ws => us ++ prm [0] ws) (fun r1 r2 => r1.append (prm_rel r2 _)) fun _ _ _ _ _ _ us ws l1 l2 => match us, ws, l1, l2 with | [], [_], _, _ => rfl
  have k_first_twice_0_values : KBn K (fdOf K ("first_twice", none)) ["values"] 0 ["values"] (fun us ws => us ++ prm [0] ws) (fun vs zs => vs ++ prm [0] zs) := kbn0 d_first_twice 0 ["values"] (fun us ws => us ++ prm [0] ws) (fun r1 r2 => r1.append (prm_rel r2 _)) fun _ _ _ _ _ _ us ws l1 l2 => match us, ws, l1, l2 with | [], [_], _, _ => rfl
  exact { d_is_integer := d_is_integer, d_is_within := d_is_within, d_is_numbers := d_is_numbers, d_is_prime := d_is_prime, d_is_sign := d_is_sign, d_as_tuples := d_as_tuples, d_first_twice := d_first_twice, d_law_well := d_law_well, d_law_pail := d_law_pail, d_law_of := d_law_of, d_law_odd := d_law_odd, d_law_bounds_right := d_law_bounds_right, d_law_rows_right := d_law_rows_right, d_law_primes := d_law_primes, d_law_signs_right := d_law_signs_right, d_law_twice_right := d_law_twice_right, d_law := d_law, c_is_integer := c_is_integer, c_is_within := c_is_within, c_is_numbers := c_is_numbers, c_is_prime := c_is_prime, c_is_sign := c_is_sign, c_as_tuples := c_as_tuples, c_first_twice := c_first_twice, c_law_well := c_law_well, c_law_pail := c_law_pail, c_law_of := c_law_of, c_law_odd := c_law_odd, c_law_bounds_right := c_law_bounds_right, c_law_rows_right := c_law_rows_right, c_law_primes := c_law_primes, c_law_signs_right := c_law_signs_right, c_law_twice_right := c_law_twice_right, c_law := c_law, n_isinstance := n_isinstance, n_int := n_int, n_bool := n_bool, n_all := n_all, n_list := n_list, n_tuple := n_tuple, n_len := n_len, n_abs := n_abs, n_range := n_range, n_repr := n_repr, n_enumerate := n_enumerate, g_PRIMES := g_PRIMES, t_PRIMES := t_PRIMES, k_is_within_1_least_most := k_is_within_1_least_most, k_is_within_0_value_least_most := k_is_within_0_value_least_most, k_is_integer_0_value := k_is_integer_0_value, k_is_numbers_0_value := k_is_numbers_0_value, k_is_sign_0_p_value := k_is_sign_0_p_value, k_is_prime_0_value := k_is_prime_0_value, k_first_twice_0_values := k_first_twice_0_values }
def nm_0 : List PySem.Str := ["PRIMES", "is_integer", "is_within", "is_numbers", "is_prime", "is_sign", "as_tuples", "first_twice", "_law_well", "_law_pail", "_law_of", "_law_odd", "_law_bounds_right", "_law_rows_right", "_law_primes", "_law_signs_right", "_law_twice_right"]
def names : List PySem.Str := nm_0
abbrev R : PySem.W.OpenRow := PySem.W.OpenLaw.row PySem.Challenge.rw_allnear_k01_checks_of_any_value
abbrev hk : PySem.W.Hook := hookZ 4 fa fn exs
def ob (s : PySem.W.SharedT) : AlZ := obsZ 4 fa fn exs (HandSHeadRun.getT s)
theorem ob_eq (s : PySem.W.SharedT) : ob s = hk.obs s.abs := obsZ_eq (HandSHeadRun.getT_eq s)
theorem run (w : World) : HandSHeadRun.RunEq R (PySem.W.view R.prog [19]) hk ob 3000 names w := by
  intro os
  kernel_rfl
end My
open PySem PySem.W PySem.Calls PyProof.Rows
set_option maxRecDepth 100000 in
set_option maxHeartbeats 0 in
theorem PySem.Challenge.cw_allnear_k01_checks_of_any_value_holds : PySem.Challenge.rw_allnear_k01_checks_of_any_value.Holds := by
  w_on; o_law
  refine HandSHeadRun.head_any (r := OpenLaw.row PySem.Challenge.rw_allnear_k01_checks_of_any_value) (q := view (OpenLaw.row PySem.Challenge.rw_allnear_k01_checks_of_any_value).prog [19]) (H := My.hk) (ob := My.ob) (M := 3000) (loose := My.names) (d := HandSHeadRun.topDef (OpenLaw.row PySem.Challenge.rw_allnear_k01_checks_of_any_value).prog 19) (kwd := []) My.ob_eq
    (by kernel_rfl) (fun s => by kernel_rfl) My.run (by kernel_rfl) (by kernel_rfl) (by kernel_rfl) (by rfl) (by first | assumption | decide +kernel) (by decide +kernel) ⟨rfl, rfl, rfl, rfl, rfl, by decide +kernel⟩ ?hw ?hc
  case hw => w_witness2
  case hc =>
    refine Z.walk_ofG (l := PySem.Challenge.rw_allnear_k01_checks_of_any_value) (n := 63) (k := 6) (x := "script") (CX := L2.CX0) rfl (by decide) (by kernel_rfl) ⟨rfl, by decide, by decide⟩ ?F (fun _ _ _ _ z => z)
    intro w mg fa h Y G hmg0
    obtain ⟨K, KX, c⟩ := Y
    have hmg : mg ("law" : PySem.Str) = some (.ref fa) := by
      have e : (HandSHeadRun.topDef (OpenLaw.row PySem.Challenge.rw_allnear_k01_checks_of_any_value).prog 19).name = ("law" : PySem.Str) := by kernel_rfl
      rw [← e]
      exact hmg0
    have T := My.txt_of KX G c
    have e := hmg.symm.trans T.c_law.gl
    cases e
    exact ⟨K, Z.fdOf K ("law", none), My.sp_law K, KX, fun s v => L2.FunD.bindsA (ps := ["script"]) T.d_law (fun _ _ _ _ _ _ us hl => match us, hl with | [_], _ => rfl) s [v] rfl, fun H a ns hl _ hS => ⟨a, ns, rfl, hS, hl, fun _ => rfl⟩, fun base _ _ => My.ok_law T⟩
#print axioms PySem.Challenge.cw_allnear_k01_checks_of_any_value_holds

