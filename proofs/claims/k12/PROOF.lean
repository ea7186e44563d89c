import PyProof.Rows.All
import Wide.All
import OpenK.AllK
import Wide.FinOn
import HandS.ForMost
import HandS.Exc
import HandS.ExcOwn
import HandS.WordsExc
import HandS.TryOnly
import HandS.TryMany
import HandS.IsInst
import HandS.Defaults
import HandS.Codes
import HandS.TupAny
import HandS.TupMul
import HandS.FStr
import HandS.CallSlots
import HandS.Wide
import HandS.Property
import HandS.Small
import HandS.Style
import HandS.Conv
import HandS.Deep
import HandS.HeadHook2
import HandS.Walk
import KE.GoesEnum
import KE.GoesMore
import HandS.OwnEq
import HandS.Head0
import HandS.Head1
import HandS.Head2
import HandS.HeadEnd
import HandS.HeadHook1
import HandS.ExcInit
import HandS.Nested
import HandS.HeadHook4
import KE.KExcSuper
import KE.KSuper
import KE.KSuperObj
import HandS.ExcField
import HandS.HeadHook3
import HandS.HotCalls
import HandS.ExcCtx
import HandS.ExcIs
import HandS.ExcInitHot
import KE.KExcIs
import HandS.Hot
import KE.KStateDown
import HandS.Ends
import HandS.More
import HandS.Words
import PySem.Challenge.RW_outrhymes_k12_errors_apart
set_option Elab.async false
set_option linter.all false
set_option maxRecDepth 100000
set_option maxHeartbeats 0
/-! Readings' short names; calls by what is known of a def (Cl), of a class (Ck), of a method (Cm). -/
namespace Z
open PySem PySem.Spec PyProof.Rows L2
abbrev oAdd : R2 := rI0 fun i j => .int (i + j)
abbrev oSub : R2 := rI0 fun i j => .int (i - j)
abbrev oMul : R2 := rI CMul fun i j => .int (i * j)
abbrev oMulW : R2 := rI CMulW fun i j => .int (i * j)
abbrev oFdv : R2 := rI CDiv fun i j => .int (i / j)
abbrev oFdvW : R2 := rI CDivW fun i j => .int (i / j)
abbrev oMod : R2 := rI (fun _ j => 0 < j) fun i j => .int (i % j)
abbrev oPow : R2 := rI CPow fun i j => .int (i ^ j.toNat)
abbrev oLt : R2 := rI0 fun i j => .bl (decide (i < j))
abbrev oLe : R2 := rI0 fun i j => .bl (decide (i ≤ j))
abbrev oGt : R2 := rI0 fun i j => .bl (decide (j < i))
abbrev oGe : R2 := rI0 fun i j => .bl (decide (j ≤ i))
abbrev oIsN : R2 := fun x y H Q => y = .non ∧ Q (.bl (decide (x = .non))) H
abbrev oNotN : R2 := fun x y H Q => y = .non ∧ Q (.bl (!decide (x = .non))) H
abbrev oAddS : R2 := fun x y H Q => ∃ i j, x = .str i ∧ y = .str j ∧ i.length + j.length ≤ sizeLine ∧ Q (.str (i ++ j)) H
abbrev oNeg : V → Hp → VK → Prop := rU fun i => .int (-i)
abbrev RL := List V → Hp → VK → Prop
def cLen (K : PySem.W.Frag) : RL := fun xs H Q => ∃ p ys, xs = [.ref p] ∧ (SqL K H p ys ∨ SqT K H p ys) ∧ Q (.int ys.length) H
def cLenS : RL := fun xs H Q => ∃ z, xs = [.str z] ∧ z.length ≤ sizeLine ∧ Q (.int z.length) H
def cInt : RL := fun xs H Q => (∃ i, xs = [.int i] ∧ Q (.int i) H) ∨ ∃ k, xs = [.bl k] ∧ Q (.int (if k then 1 else 0)) H
def cIntS : RL := fun xs H Q => ∃ a n, xs = [.str a] ∧ PySem.intText? a = some n ∧ a.length ≤ 640 ∧ Q (.int n) H
def cAbs : RL := fun xs H Q => ∃ i, xs = [.int i] ∧ Q (.int (if i < 0 then -i else i)) H
def cStr : RL := fun xs H Q => ∃ i, xs = [.int i] ∧ i.natAbs.log2 < 1920 ∧ Q (.str (toString i)) H
def cTup (K : PySem.W.Frag) : RL := fun xs H Q => ∃ p ys, xs = [.ref p] ∧ ((SqL K H p ys ∧ ∀ l, H l = none → Q (.ref l) (upd H l (.tup ys))) ∨ (SqT K H p ys ∧ Q (.ref p) H))
def cLst (K : PySem.W.Frag) : RL := fun xs H Q => ∃ p ys, xs = [.ref p] ∧ (SqL K H p ys ∨ SqT K H p ys) ∧ ∀ l, H l = none → Q (.ref l) (upd H l (.lst ys))
def mSplit : V → RL := fun x xs H Q => ∃ a b, x = .str a ∧ xs = [.str b] ∧ (b.length == 0) = false ∧ a.length + 2 ≤ sizeLine ∧ rNewStrs (Txt.split a b) H Q
def mJoin (K : PySem.W.Frag) : V → RL := fun x xs H Q => ∃ a p, ∃ ys : List Str, x = .str a ∧ xs = [.ref p] ∧ (SqL K H p (ys.map V.str) ∨ SqT K H p (ys.map V.str)) ∧ (ys.map (·.length)).sum + ys.length * a.length ≤ 16777216 ∧ Q (.str (Txt.join a ys)) H
def tJoined (ts : List TE) : TE := fun σ H Q => tJs ts Str.empty σ H fun out H1 => Q (.str out) H1

/-- all that was known stays -/
abbrev Ex (H H' : Hp) : Prop := ∀ b o, H b = some o → H' b = some o
theorem ex_refl (H : Hp) : Ex H H := fun _ _ h => h
theorem ex_trans {H H1 H2 : Hp} (a : Ex H H1) (b : Ex H1 H2) : Ex H H2 := fun x o h => b x o (a x o h)
theorem ex_new {H : Hp} {p : Addr} {o : HO} (h : H p = none) : Ex H (upd H p o) := fun a u e => by
  rw [upd_ne (ne_of_none e h)]
  exact e
theorem ex_mut {H H' : Hp} {p : Addr} {o : HO} (e : Ex H H') (h : H p = none) : Ex H (upd H' p o) := fun a u ha => by
  rw [upd_ne (ne_of_none ha h)]
  exact e a u ha
theorem ex_free {H H' : Hp} {p : Addr} (e : Ex H H') (h : H' p = none) : H p = none := by
  cases h1 : H p with
  | none => rfl
  | some o =>
    have h2 := e p o h1
    rw [h] at h2
    cases h2
/-- but for one place -/
abbrev Fx (d : Addr) (H H' : Hp) : Prop := ∀ b o, b ≠ d → H b = some o → H' b = some o
theorem fx_refl (d : Addr) (H : Hp) : Fx d H H := fun _ _ _ h => h
theorem fx_trans {d : Addr} {H H1 H2 : Hp} (a : Fx d H H1) (b : Fx d H1 H2) : Fx d H H2 := fun x o n h => b x o n (a x o n h)
theorem fx_ex {d : Addr} {H H' : Hp} (h : Ex H H') : Fx d H H' := fun b o _ e => h b o e
theorem ex_fx {d : Addr} {H0 H H' : Hp} (e : Ex H0 H) (n : H0 d = none) (f : Fx d H H') : Ex H0 H' := fun b o q => f b o (fun z => by subst z; rw [n] at q; cases q) (e b o q)
theorem fx_upd {d : Addr} {H : Hp} {o : HO} : Fx d H (upd H d o) := fun b u n e => by
  rw [upd_ne n]
  exact e
theorem sq_ex {K : PySem.W.Frag} {H H' : Hp} {a : Addr} {xs : List V} (e : Ex H H') (h : SqL K H a xs) : SqL K H' a xs := by
  rcases h with (h | ⟨o, h⟩) | h
  · exact .inl (.inl (e _ _ h))
  · exact .inl (.inr ⟨o, e _ _ h⟩)
  · exact .inr h
theorem sqt_ex {K : PySem.W.Frag} {H H' : Hp} {a : Addr} {xs : List V} (e : Ex H H') (h : SqT K H a xs) : SqT K H' a xs := by
  rcases h with (h | ⟨o, h⟩) | h
  · exact .inl (.inl (e _ _ h))
  · exact .inl (.inr ⟨o, e _ _ h⟩)
  · exact .inr h

theorem at0 {a : V} {l : List V} : atI (a :: l) 0 = some a := atI_nat (j := 0) rfl
theorem at1 {a b : V} {l : List V} : atI (a :: b :: l) 1 = some b := atI_nat (j := 1) rfl
theorem at2 {a b c : V} {l : List V} : atI (a :: b :: c :: l) 2 = some c := atI_nat (j := 2) rfl
theorem at3 {a b c d : V} {l : List V} : atI (a :: b :: c :: d :: l) 3 = some d := atI_nat (j := 3) rfl
theorem ix0 {n : Nat} : ixN (n + 1) 0 = some 0 := by
  unfold ixN
  rw [if_pos (by omega), if_pos (by omega)]
  rfl
theorem ix1 {n : Nat} : ixN (n + 1 + 1) 1 = some 1 := by
  unfold ixN
  rw [if_pos (by omega), if_pos (by omega)]
  rfl
theorem d_int (a b : Int) : decide (V.int a = V.int b) = decide (a = b) := by
  by_cases h : a = b
  · rw [decide_eq_true h, decide_eq_true (congrArg V.int h)]
  · rw [decide_eq_false h, decide_eq_false fun z => h (V.int.inj z)]
theorem d_str (a b : Str) : decide (V.str a = V.str b) = decide (a = b) := by
  by_cases h : a = b
  · rw [decide_eq_true h, decide_eq_true (congrArg V.str h)]
  · rw [decide_eq_false h, decide_eq_false fun z => h (V.str.inj z)]
theorem v_int {a b : Int} (h : decide (V.int a = V.int b) = true) : a = b := V.int.inj (of_decide_eq_true h)
theorem v_int' {a b : Int} (h : decide (V.int a = V.int b) = false) : a ≠ b := fun z => of_decide_eq_false h (congrArg V.int z)
theorem iteT' {c : Bool} {A B : Prop} (h : c = true) (k : A) : if c = true then A else B := by
  rw [if_pos h]
  exact k
theorem iteF' {c : Bool} {A B : Prop} (h : c = false) (k : B) : if c = true then A else B := by
  rw [h, if_neg Bool.false_ne_true]
  exact k
/-- an if whose test has the answer b and makes nothing | may make things -/
theorem if_go {c : TT} {t u : TS} {D : Ends} {σ : L2.St} {H : Hp} (b : Bool) (h : ∀ Q : Bool → Hp → Prop, Q b H → c σ H Q) (ht : b = true → t D σ H) (hf : b = false → u D σ H) : tIfS c t u D σ H := by
  refine h _ ?_
  cases b with
  | true => exact iteT (ht rfl)
  | false => exact iteF (hf rfl)
theorem if_goH {c : TT} {t u : TS} {D : Ends} {σ : L2.St} {H : Hp} (b : Bool) (h : ∀ Q : Bool → Hp → Prop, (∀ H', Ex H H' → Q b H') → c σ H Q) (ht : ∀ H', Ex H H' → b = true → t D σ H') (hf : ∀ H', Ex H H' → b = false → u D σ H') : tIfS c t u D σ H := by
  refine h _ fun H' e => ?_
  cases b with
  | true => exact iteT (ht H' e rfl)
  | false => exact iteF (hf H' e rfl)
/-- a and b, where a's answer is known -/
theorem and_go {t u : TT} {σ : L2.St} {H : Hp} {Q : Bool → Hp → Prop} (a b : Bool) (h : ∀ Q : Bool → Hp → Prop, Q a H → t σ H Q) (hu : a = true → ∀ Q : Bool → Hp → Prop, Q b H → u σ H Q) (q : Q (a && b) H) : tAnd t u σ H Q := by
  refine h _ ?_
  cases a with
  | true => exact iteT (hu rfl Q q)
  | false => exact iteF q
theorem or_go {t u : TT} {σ : L2.St} {H : Hp} {Q : Bool → Hp → Prop} (a b : Bool) (h : ∀ Q : Bool → Hp → Prop, Q a H → t σ H Q) (hu : a = false → ∀ Q : Bool → Hp → Prop, Q b H → u σ H Q) (q : Q (a || b) H) : tOr t u σ H Q := by
  refine h _ ?_
  cases a with
  | true => exact iteT q
  | false => exact iteF (hu rfl Q q)
theorem andV_go {ta tb : TE} {σ : L2.St} {H : Hp} {Q : VK} (a b : Bool) (h : ∀ Q : VK, Q (.bl a) H → ta σ H Q) (hu : a = true → ∀ Q : VK, Q (.bl b) H → tb σ H Q) (q : Q (.bl (a && b)) H) : tAndV ta tb σ H Q := by
  refine h _ ⟨a, rfl, ?_⟩
  cases a with
  | true => exact iteT (hu rfl Q q)
  | false => exact iteF q
theorem orV_go {ta tb : TE} {σ : L2.St} {H : Hp} {Q : VK} (a b : Bool) (h : ∀ Q : VK, Q (.bl a) H → ta σ H Q) (hu : a = false → ∀ Q : VK, Q (.bl b) H → tb σ H Q) (q : Q (.bl (a || b)) H) : tOrV ta tb σ H Q := by
  refine h _ ⟨a, rfl, ?_⟩
  cases a with
  | true => exact iteT q
  | false => exact iteF (hu rfl Q q)
/-- a def that is called by its name, with these defaults -/
structure Cl (P : Program) (w : World) (K : PySem.W.Frag) (mg : Str → Option Value) (base : Heap) (k : Nat) (x : Str) (sp : Sp) (dvs : List V) : Prop where
  ex : ∃ (f : Addr) (fd : FuncData) (ps : List Str) (ds : List Value), FnOk P w K mg base (L2.CX P w) k f fd ps sp ∧ mg x = some (.ref f) ∧ PySem.W.keepIn K (.ref f) = true ∧ Binds K fd ps ds ∧ Vals dvs ds
/-- a method of the class at C -/
structure Cm (P : Program) (w : World) (K : PySem.W.Frag) (mg : Str → Option Value) (base : Heap) (k : Nat) (C : Addr) (m : Str) (sp : Sp) : Prop where
  ex : ∃ (f : Addr) (fd : FuncData) (ps : List Str), Cls K C ∧ Meth K C m f ∧ FnOk P w K mg base (L2.CX P w) k f fd ps sp ∧ Binds K fd ps []
/-- a class that is made by its name -/
structure Ck (P : Program) (w : World) (K : PySem.W.Frag) (mg : Str → Option Value) (base : Heap) (k : Nat) (x : Str) (C : Addr) (sp : Sp) : Prop where
  ex : ∃ (f : Addr) (fd : FuncData) (ps : List Str), Mk K C f ∧ FnOk P w K mg base (L2.CX P w) k f fd ps sp ∧ mg x = some (.ref C) ∧ Binds K fd ps []
section
variable {X : Cx} {k j : Nat} {C : Addr} {x m : Str} {sp : Sp} {dvs : List V} {p pos apos : Pos} {e o : Expr} {es : List Expr} {ta : TE} {t : TA} {E : XK}
theorem pe_cl (c : Cl X.prog X.w X.K X.mg X.base k x sp dvs) (hr : Room j X.A) (hk : k ≤ j) (hg : Gl X x) (hx : Passes (L2.CX X.prog X.w) X E) (ha : PA X (e :: es) t)
    (hdb : (x == ("__debug__" : Str)) = false := by decide) (he : starEach (e :: es) X.env = (false, eval e X.env) :: starEach es X.env := by rfl) (hpl : (backTo pos (starEach es X.env)).any (·.1) = false := by rfl) :
    PE X (.Call (.Name x p) (e :: es) [] pos) (tCall sp dvs E t) := by
  obtain ⟨f, fd, ps, ds, F, hm, kp, b, d⟩ := c.ex
  exact pe_call F (hr.mono hk) hg hm kp b d hx ha hdb he hpl
theorem pe_clS {W : L2.St → XK} (c : Cl X.prog X.w X.K X.mg X.base k x sp dvs) (hr : Room j X.A) (hk : k ≤ j) (hg : Gl X x) (hx : ∀ σ, PassesAt (L2.CX X.prog X.w) X σ (W σ)) (ha : PA X (e :: es) t)
    (hdb : (x == ("__debug__" : Str)) = false := by decide) (he : starEach (e :: es) X.env = (false, eval e X.env) :: starEach es X.env := by rfl) (hpl : (backTo pos (starEach es X.env)).any (·.1) = false := by rfl) :
    PE X (.Call (.Name x p) (e :: es) [] pos) (tCallSD sp dvs W t) := by
  obtain ⟨f, fd, ps, ds, F, hm, kp, b, d⟩ := c.ex
  exact pe_callSD F (hr.mono hk) hg hm kp b d hx ha hdb he hpl
theorem pe_mkc (c : Ck X.prog X.w X.K X.mg X.base k x C sp) (hr : Room j X.A) (hk : k + 1 ≤ j) (hg : Gl X x) (hx : Passes (L2.CX X.prog X.w) X E) (ha : PA X (e :: es) t)
    (hdb : (x == ("__debug__" : Str)) = false := by decide) (he : starEach (e :: es) X.env = (false, eval e X.env) :: starEach es X.env := by rfl) (hpl : (backTo pos (starEach es X.env)).any (·.1) = false := by rfl) :
    PE X (.Call (.Name x p) (e :: es) [] pos) (tMake C sp [] E t) := by
  obtain ⟨f, fd, ps, M, F, hm, b⟩ := c.ex
  exact pe_make M F (hr.mono hk) hg hm b .nil hx ha hdb he hpl
end
section
variable {P : Program} {w : World} {K : PySem.W.Frag} {mg : Str → Option Value} {base : Heap} {N : List Str} {qual : Str} {sc : Scope} {f : Addr} {cdv : Value} {A : Around} {outer : List Env} {s : Shared} {H : Hp} {E : XK}
theorem takesE : Takes (cxOf (L2.CX P w) P w K mg base N qual sc f cdv A outer s H E) (fun cls d _ H' => E cls d H') := L2.takes_of rfl rfl rfl rfl
theorem passE : Passes (L2.CX P w) (cxOf (L2.CX P w) P w K mg base N qual sc f cdv A outer s H E) E := L2.passes_call takesE (fun _ _ _ _ h => h)
theorem ownsE : PassesOwn (model P w) (cxOf (L2.CX P w) P w K mg base N qual sc f cdv A outer s H E).A (cxOf (L2.CX P w) P w K mg base N qual sc f cdv A outer s H E).env (cxOf (L2.CX P w) P w K mg base N qual sc f cdv A outer s H E).xe :=
  L2.passes_of rfl
/-- what the top leaves of a def: st its statement -/
abbrev FnT (K : PySem.W.Frag) (x qual : Str) (st : Stmt) (dvs : List V) (f : Addr) (fd : FuncData) : Prop := FunD K x qual (defArgs st) (defBody st) (defScope st) dvs [] f fd
theorem cl_of {x : Str} {st : Stmt} {ps : List Str} {k : Nat} {sp : Sp} (F : ∃ fd, FnT K x x st [] f fd) (hm : mg x = some (.ref f)) (S : FnScope N ps (defScope st)) (len : ∀ vs H Q E, sp vs H Q E → vs.length = ps.length)
    (hb : ∀ (kV doc pm : Value) (an : Option Addr) (cdv ct : Value) (us : List Value), us.length = ps.length → bindArgs (PySem.W.fnOf x x (defArgs st) (defBody st) (defScope st) .none kV doc pm an cdv ct) ⟨us, []⟩ = pure (ps.zip us))
    (body : ∀ (cdv : Value) (A : Around) (outer : List Env) (s : Shared) (H : Hp) (vs : List V) (Q : VK) (E : XK), Room k (A.deeper (envOfC x (defScope st) s.heap.objs.size f cdv)) → sp vs H Q E →
      ∃ t, PSs (cxOf (L2.CX P w) P w K mg base N x (defScope st) f cdv A outer s H E) (defBody st) t ∧ t { nx := fun _ H' => Q .non H', rt := Q } (start N vs) H) : Cl P w K mg base (k + 1) x sp [] := by
  obtain ⟨fd, F⟩ := F
  exact ⟨f, fd, ps, [], F.ok S len body, hm, F.kp, F.bindsN hb, .nil⟩
end
end Z
/-! Data on the heap, comprehensions that make nothing else, enumerate over a tuple. -/
namespace Z
open PySem PySem.Spec PyProof.Rows L2
/-! ### data -/
mutual
theorem dp_ex {K : PySem.W.Frag} {H H' : Hp} (e : Ex H H') : ∀ {v : V} {d : PyData}, Dp K H v d → Dp K H' v d
  | _, _, .non => .non
  | _, _, .bl b => .bl b
  | _, _, .int i => .int i
  | _, _, .str x => .str x
  | _, _, .lst h a => .lst (sq_ex e h) (dpa_ex e a)
  | _, _, .tup h a => .tup (sqt_ex e h) (dpa_ex e a)
theorem dpa_ex {K : PySem.W.Frag} {H H' : Hp} (e : Ex H H') : ∀ {v : List V} {d : List PyData}, DpAll K H v d → DpAll K H' v d
  | _, _, .nil => .nil
  | _, _, .cons h a => .cons (dp_ex e h) (dpa_ex e a)
end
/-- neither a tuple nor a locked one stands there -/
def NoT : Option HO → Prop
  | some (.tup _) => False
  | some (.frz _ _) => False
  | none => False
  | _ => True
/-- a tuple is still there where one other thing alone has changed -/
theorem sqt_fxN {K : PySem.W.Frag} {H H' : Hp} {a d : Addr} {xs : List V} (hd : NoT (H d)) (e : Fx d H H') (h : SqT K H a xs) : SqT K H' a xs := by
  rcases h with (h | ⟨o, h⟩) | h
  · exact .inl (.inl (e _ _ (fun z => by rw [← z, h] at hd; exact hd) h))
  · exact .inl (.inr ⟨o, e _ _ (fun z => by rw [← z, h] at hd; exact hd) h⟩)
  · exact .inr h
theorem noT_l {H : Hp} {d : Addr} {zs : List V} (h : H d = some (.lst zs)) : NoT (H d) := by
  rw [h]
  exact trivial
theorem noT_i {H : Hp} {d C dx : Addr} {fs : List (Str × V)} (h : H d = some (.ins C dx fs)) : NoT (H d) := by
  rw [h]
  exact trivial
mutual
/-- no list within -/
def flatD : PyData → Bool
  | .none => true
  | .bool _ => true
  | .int _ => true
  | .str _ => true
  | .list _ => false
  | .tuple ds => flatDs ds
  | .dict _ => false
def flatDs : List PyData → Bool
  | [] => true
  | d :: ds => flatD d && flatDs ds
end
mutual
theorem dp_fxN {K : PySem.W.Frag} {H H' : Hp} {l : Addr} (hl : NoT (H l)) (e : Fx l H H') : ∀ {v : V} {d : PyData}, flatD d = true → Dp K H v d → Dp K H' v d
  | _, _, _, .non => .non
  | _, _, _, .bl b => .bl b
  | _, _, _, .int i => .int i
  | _, _, _, .str x => .str x
  | _, .list _, f, .lst h a => nomatch f
  | _, .tuple ds, f, .tup h a => .tup (sqt_fxN hl e h) (dpa_fxN hl e (d := ds) f a)
theorem dpa_fxN {K : PySem.W.Frag} {H H' : Hp} {l : Addr} (hl : NoT (H l)) (e : Fx l H H') : ∀ {v : List V} {d : List PyData}, flatDs d = true → DpAll K H v d → DpAll K H' v d
  | _, _, _, .nil => .nil
  | _, d :: ds, f, .cons h a => .cons (dp_fxN hl e (Bool.and_eq_true_iff.mp (show (flatD d && flatDs ds) = true from f)).1 h) (dpa_fxN hl e (Bool.and_eq_true_iff.mp (show (flatD d && flatDs ds) = true from f)).2 a)
end
/-- the name of the class of data -/
def tyN : PyData → String
  | .none => "NoneType"
  | .bool _ => "bool"
  | .int _ => "int"
  | .str _ => "str"
  | .list _ => "list"
  | .tuple _ => "tuple"
  | .dict _ => "dict"
theorem dp_ty {K : PySem.W.Frag} {H : Hp} {v : V} {d : PyData} (h : Dp K H v d) : TyX K H v (.type (tyN d)) := by
  cases h with
  | non => exact .base .non
  | bl b => exact .base (.bl b)
  | int i => exact .base (.int i)
  | str x => exact .base (.str x)
  | lst h _ =>
    rcases h with (h | ⟨o, h⟩) | ⟨o, _, _, h, c, _⟩
    · exact .base (.lst h)
    · exact .base (.frz h)
    · exact .kList h c
  | tup h _ =>
    rcases h with (h | ⟨o, h⟩) | ⟨o, _, _, h, c, _⟩
    · exact .base (.tup h)
    · exact .fTuple h
    · exact .kTuple h c
theorem dpa_len {K : PySem.W.Frag} {H : Hp} : ∀ {vs : List V} {ds : List PyData}, DpAll K H vs ds → vs.length = ds.length
  | _, _, .nil => rfl
  | _, _, .cons _ a => congrArg (· + 1) (dpa_len a)
theorem dpa_get {K : PySem.W.Frag} {H : Hp} : ∀ {vs : List V} {ds : List PyData} {i : Nat} {d : PyData}, DpAll K H vs ds → ds[i]? = some d → ∃ v, vs[i]? = some v ∧ Dp K H v d
  | _, _, _, _, .nil, e => by simp at e
  | _, _, 0, _, .cons h a, e => ⟨_, rfl, by
    have e2 := Option.some.inj e
    rw [← e2]
    exact h⟩
  | _, _, i + 1, _, .cons h a, e => dpa_get (i := i) a e
theorem dpa_get' {K : PySem.W.Frag} {H : Hp} : ∀ {vs : List V} {ds : List PyData} {i : Nat} {v : V}, DpAll K H vs ds → vs[i]? = some v → ∃ d, ds[i]? = some d ∧ Dp K H v d
  | _, _, _, _, .nil, e => by simp at e
  | _, _, 0, _, .cons h a, e => ⟨_, rfl, by
    have e2 := Option.some.inj e
    rw [← e2]
    exact h⟩
  | _, _, i + 1, _, .cons h a, e => dpa_get' (i := i) a e
theorem dp_tup {K : PySem.W.Frag} {H : Hp} {v : V} {ds : List PyData} (h : Dp K H v (.tuple ds)) : ∃ a xs, v = .ref a ∧ SqT K H a xs ∧ DpAll K H xs ds := by
  cases h with
  | tup h a => exact ⟨_, _, rfl, h, a⟩
theorem dp_lst {K : PySem.W.Frag} {H : Hp} {v : V} {ds : List PyData} (h : Dp K H v (.list ds)) : ∃ a xs, v = .ref a ∧ SqL K H a xs ∧ DpAll K H xs ds := by
  cases h with
  | lst h a => exact ⟨_, _, rfl, h, a⟩
theorem dp_int {K : PySem.W.Frag} {H : Hp} {v : V} {i : Int} (h : Dp K H v (.int i)) : v = .int i := by
  cases h
  rfl
theorem dp_str {K : PySem.W.Frag} {H : Hp} {v : V} {x : Str} (h : Dp K H v (.str x)) : v = .str x := by
  cases h
  rfl
theorem dpa_snoc {K : PySem.W.Frag} {H : Hp} {v : V} {d : PyData} (h : Dp K H v d) : ∀ {vs : List V} {ds : List PyData}, DpAll K H vs ds → DpAll K H (vs ++ [v]) (ds ++ [d])
  | _, _, .nil => .cons h .nil
  | _, _, .cons g a => .cons g (dpa_snoc h a)
theorem dpa_ints {K : PySem.W.Frag} {H : Hp} : ∀ ns : List Int, DpAll K H (ns.map V.int) (ns.map PyData.int)
  | [] => .nil
  | n :: ns => .cons (.int n) (dpa_ints ns)
/-- isinstance of data with a built-in class -/
theorem isi_go {K : PySem.W.Frag} {H : Hp} {v : V} {d : PyData} {c : String} {b : Bool} {Q : VK} (h : Dp K H v d) (e : kitB (tyN d) c = some b) (q : Q (.bl b) H) : rIsi K [v, .ty c] H Q :=
  ⟨v, .ty c, _, _, b, rfl, .ty c, dp_ty h, kit_ty e, q⟩
/-- a list by its places -/
theorem map_range_get {α β : Type} (l : List α) (f : α → β) (d : α) {n : Nat} (hn : n = l.length) : (List.range n).map (fun i => f (l.getD i d)) = l.map f := by
  subst hn
  refine List.ext_getElem? fun i => ?_
  rw [List.getElem?_map, List.getElem?_map]
  by_cases h : i < l.length
  · rw [List.getElem?_range h, List.getElem?_eq_getElem h]
    show some (f (l.getD i d)) = some (f l[i])
    rw [List.getD_eq_getElem?_getD, List.getElem?_eq_getElem h]
    rfl
  · rw [List.getElem?_eq_none_iff.mpr (by rw [List.length_range]; omega), List.getElem?_eq_none_iff.mpr (by omega)]
    rfl
/-! ### comprehensions -/
section
variable {J : It} {n : Nat} {G : Hp → Prop} {Y : Nat → Hp → V → Hp → Prop}
/-- a comprehension whose test and element make nothing that lasts: p i, f i at the turn i -/
theorem lc_pure (w : Walk J n G Y) {g : TG} {tt : TT} {te : TE} {vs : List Nat} {σ : L2.St} {H1 : Hp} {D : Addr} {Qd : Hp → Prop} (p : Nat → Bool) (f : Nat → V) (hD : H1 D = none) (hn : n < sizeLine) (hG : ∀ H, Ex H1 H → G H)
    (hs : ∀ i x H H', i < n → Ex H1 H → Y i H x H' → ∀ (Q : VK) (Zf : Hp → Prop), (p i = true → ∀ H4, Ex H H4 → Q (f i) H4) → (p i = false → ∀ H4, Ex H H4 → Zf H4) →
      g x (wipe σ vs) H' fun σ2 H2 => wipe σ2 vs = wipe σ vs ∧ tt σ2 H2 fun b H3 => if b = true then te σ2 H3 Q else Zf H3)
    (hd : ∀ H, Ex H1 H → H D = some (.lst (((List.range n).filter p).map f)) → Qd H) :
    ∃ W : Nat → Nat → Hp → Prop, (∃ m, W 0 m (upd H1 D (.lst []))) ∧ ∀ i m H, W i m H →
      (J.stop i H ∧ Qd H) ∨ (J.go i H ∧ ∃ Nx : Hp → Prop, (∀ H', Nx H' → ∃ m', m' < m ∧ W (i + 1) m' H') ∧ ∀ x H', J.yld i H x H' → g x (wipe σ vs) H' fun σ2 H2 => wipe σ2 vs = wipe σ vs ∧ tt σ2 H2 fun b H3 =>
        if b = true then te σ2 H3 fun y H4 => ∃ acc, H4 D = some (.lst acc) ∧ acc.length < sizeLine ∧ Nx (upd H4 D (.lst (acc ++ [y]))) else Nx H3) := by
  refine lc_it w (fun i H => Ex H1 H ∧ H D = some (.lst (((List.range i).filter p).map f))) ⟨ex_new hD, upd_same⟩ (fun i H _ h => hG H h.1) (fun i x H H' hi ⟨e, hDi⟩ y => ?_) (fun H h => hd H h.1 h.2)
  refine hs i x H H' hi e y _ _ (fun hp H4 e4 => ⟨_, e4 D _ hDi, ?_, ex_mut (ex_trans e e4) hD, ?_⟩) (fun hp H4 e4 => ⟨ex_trans e e4, ?_⟩)
  · refine Nat.lt_of_le_of_lt ?_ hn
    rw [List.length_map]
    refine Nat.le_trans (List.length_filter_le ..) ?_
    rw [List.length_range]
    omega
  · rw [upd_same, List.range_succ, List.filter_append, List.map_append]
    simp [List.filter, hp]
  · rw [e4 D _ hDi, List.range_succ, List.filter_append, List.map_append]
    simp [List.filter, hp]
theorem filter_all {α : Type} (l : List α) : l.filter (fun _ => true) = l := by
  induction l with
  | nil => rfl
  | cons a l ih => rw [List.filter_cons_of_pos rfl, ih]
/-- without a test -/
theorem lc_map (w : Walk J n G Y) {g : TG} {te : TE} {vs : List Nat} {σ : L2.St} {H1 : Hp} {D : Addr} {Qd : Hp → Prop} (f : Nat → V) (hD : H1 D = none) (hn : n < sizeLine) (hG : ∀ H, Ex H1 H → G H)
    (hs : ∀ i x H H', i < n → Ex H1 H → Y i H x H' → ∀ (Q : VK) (Zf : Hp → Prop), (∀ H4, Ex H H4 → Q (f i) H4) →
      g x (wipe σ vs) H' fun σ2 H2 => wipe σ2 vs = wipe σ vs ∧ tYes σ2 H2 fun b H3 => if b = true then te σ2 H3 Q else Zf H3)
    (hd : ∀ H, Ex H1 H → H D = some (.lst ((List.range n).map f)) → Qd H) :
    ∃ W : Nat → Nat → Hp → Prop, (∃ m, W 0 m (upd H1 D (.lst []))) ∧ ∀ i m H, W i m H →
      (J.stop i H ∧ Qd H) ∨ (J.go i H ∧ ∃ Nx : Hp → Prop, (∀ H', Nx H' → ∃ m', m' < m ∧ W (i + 1) m' H') ∧ ∀ x H', J.yld i H x H' → g x (wipe σ vs) H' fun σ2 H2 => wipe σ2 vs = wipe σ vs ∧ tYes σ2 H2 fun b H3 =>
        if b = true then te σ2 H3 fun y H4 => ∃ acc, H4 D = some (.lst acc) ∧ acc.length < sizeLine ∧ Nx (upd H4 D (.lst (acc ++ [y]))) else Nx H3) :=
  lc_pure w (fun _ => true) f hD hn hG (fun i x H H' hi e y Q Zf h _ => hs i x H H' hi e y Q Zf (h rfl)) (fun H e h => hd H e (by rw [filter_all] at h; exact h))
end
end Z
namespace Z
open PySem PySem.Spec PyProof.Rows L2
/-! ### enumerate over a tuple -/
/-- the tuple's items with their places, each pair new -/
def IteT (K : PySem.W.Frag) (a : Addr) : It :=
  ⟨fun i H => ∃ (xs : List V) (x : V), SqT K H a xs ∧ xs[i]? = some x, fun i H v H' => ∃ T x, v = .ref T ∧ H T = none ∧ H' = upd H T (.tup [.int (i : Nat), x]) ∧ ∀ xs, SqT K H a xs → xs[i]? = some x,
    fun i H => ∃ xs : List V, SqT K H a xs ∧ xs.length = i⟩
theorem tupiter_ne {h : Heap} {it a : Addr} {i : Nat} {items : Array Value} (h1 : h.IsTupleIter it a i) (h2 : h.IsTuple a items) : a ≠ it := by
  intro z
  subst z
  obtain ⟨o, e, c, _⟩ := h1
  obtain ⟨o2, e2, c2, _⟩ := h2
  rw [e] at e2
  cases e2
  rw [c] at c2
  revert c2
  decide
theorem turn_enumT {P : Program} {w : World} {K : PySem.W.Frag} {elts : List Expr} {kk : Nat} {tpos : Pos} (a e it : Addr) :
    Turn P w K (.Tuple elts kk tpos) (IteT K a) [e, it] e (fun i h => (∃ old, IsEnum h e it ((i : Nat) : Int) old) ∧ h.IsTupleIter it a i ∧ e ≠ it ∧ e ≠ a) where
  mem := List.mem_cons_self ..
  obj := fun i h ⟨⟨old, he⟩, ⟨o, ho, _, hd⟩, _⟩ b hb => by
    rcases (show b = e ∨ b = it by simpa using hb) with rfl | rfl
    · exact ⟨_, he, fun v q => nomatch q⟩
    · exact ⟨o, ho, fun v q => by rw [hd] at q; cases q⟩
  keep := fun i h h' ⟨⟨old, he⟩, hi, hne⟩ k => ⟨⟨old, k e (by simp) _ he⟩, hi.at fun o q => k it (by simp) o q, hne⟩
  item := by
    intro X hP hw hK hc i pins s σ H E I hf st ⟨xs, x, hq, hx⟩
    subst hP hw hK
    obtain ⟨⟨old, he⟩, hit, hne, hea⟩ := st
    obtain ⟨its, rv, pt, hz⟩ := I.tuple hq
    obtain ⟨u, hu, ru⟩ := rv.get hx
    have hel : e < s.heap.objs.size := Heap.lt_size he
    have hil : it < s.heap.objs.size := by
      obtain ⟨_, q, _⟩ := hit
      exact Heap.lt_size q
    have hia : a ≠ it := tupiter_ne hit pt
    have hlt : i < its.toArray.size := by
      have := (List.getElem?_eq_some_iff.mp hu).1
      simpa using this
    have D : Draws X.prog X.w X.A.in1 it [it, a] its.toArray.size (fun i v => its.toArray[i]? = some v) (fun i h => h.IsTupleIter it a i ∧ h.IsTuple a its.toArray) :=
      Draws.tuple (show X.A.in1.handled = none from I.ok.hd hc) it a hia its.toArray
    refine wpAny_pyNext_enum_itemC D he ⟨hit, pt⟩ hlt hne (by simp [hne, hea]) fun y h' tk hy ho hst' hT hsz hk => ⟨_, rfl, ?_⟩
    refine wpAny_letOwnedTupleGo_enum (s := { s with heap := h', toks := tk + 1 }) ho fun h2 he2 sb => ?_
    have ey : y = u := by
      have q : its.toArray[i]? = some u := by simpa using hu
      rw [q] at hy
      exact (Option.some.inj hy).symm
    have hT2 := (sb.2 s.heap.objs.size (Nat.ne_of_gt hel)).trans hT
    rw [ey] at hT2
    have kept : ∀ b ob, b ∉ [e, it] → s.heap.get? b = some ob → h2.get? b = some ob := fun b ob hb q => by
      have n1 : b ≠ e := fun z => hb (by simp [z])
      have n2 : b ≠ it := fun z => hb (by simp [z])
      exact (sb.2 b n1).trans (hk b ob n1 n2 q)
    have hI := I.turnedNew (t' := tk + 1) (T := s.heap.objs.size) (ob := .tup [.int (i : Nat), x]) kept hf (Nat.le_refl _)
      ⟨(by decide : 2 ≤ sizeLine), [.int i tk, u], .cons ⟨_, rfl⟩ (.cons ru .nil), ⟨_, hT2, rfl, _, rfl⟩⟩
    refine ⟨.ref s.heap.objs.size, _, hI, rfl, ⟨_, x, rfl, I.hok.fresh (Nat.le_refl _), rfl, fun ys hy => by rw [I.tuple_inj hy hq]; exact hx⟩, ⟨⟨y, ?_⟩, hst'.1.at fun o q => (sb.2 it (Ne.symm hne)).trans q, hne, hea⟩, fun b hb => ?_⟩
    · rw [show ((i + 1 : Nat) : Int) = (i : Int) + 1 by omega]
      exact he2
    · have hb2 : b < s.heap.objs.size := by
        rcases (show b = e ∨ b = it by simpa using hb) with rfl | rfl
        · exact hel
        · exact hil
      rw [upd_ne (Nat.ne_of_lt hb2)]
      exact (hf b hb).1
  done := by
    intro X hP hw hK hc i pins s σ H E I hf st ⟨xs, hq, hx⟩
    subst hP hw hK
    obtain ⟨⟨old, he⟩, hit, hne, hea⟩ := st
    obtain ⟨its, rv, pt, hz⟩ := I.tuple hq
    have hia : a ≠ it := tupiter_ne hit pt
    have hl : its.toArray.size = i := by
      rw [← hx, rv.length]
      simp
    have D : Draws X.prog X.w X.A.in1 it [it, a] its.toArray.size (fun i v => its.toArray[i]? = some v) (fun i h => h.IsTupleIter it a i ∧ h.IsTuple a its.toArray) :=
      Draws.tuple (show X.A.in1.handled = none from I.ok.hd hc) it a hia its.toArray
    refine wpAny_pyNext_enum_endD D he ⟨by rw [hl]; exact hit, pt⟩ fun h' eb => ⟨rfl, I.turnedL (t' := s.toks) (ch := [e, it]) (fun b o hb q => eb b o (fun z => hb (by simp [z])) q) hf⟩
  self := fun A i s Q E ⟨⟨_, he⟩, _⟩ h => wpAny_pyIter_enum he h
theorem meets_enum1 {v : Value} {o : Obj} {G : Heap → Prop} (B : Begins v o G) :
    Meets (Builtin.«enumerate.__new__» ⟨[.type "enumerate", v], []⟩) (fun _ R s => G s.heap ∧ R (.ok (.ret (.ref (s.heap.push o).objs.size)))
      { s with heap := (s.heap.push o).push { cls := .type "enumerate", data := .fields #[.none, .bool false, .ref s.heap.objs.size, rawInt 0, .none, .none] } }) :=
  .of_wp fun prog w A R s ⟨h1, h⟩ => by
    obtain ⟨hp, gs, dr, tk, os⟩ := s
    have hsub := sub_enumerate
    have it1 : ∀ {A' : Around} {E : Value → Shared → Prop} {Q : Value → Shared → Prop}, Q (.ref hp.objs.size) ⟨hp.push o, gs, dr, tk, os⟩ → wpAny (model prog w) A' (pyIter v) Q E ⟨hp, gs, dr, tk, os⟩ :=
      fun q => B.iter prog w _ _ ⟨hp, gs, dr, tk, os⟩ _ h1 q
    wp_walk using it1
    refine wpAny_stack_any fun st => wpAny_pure ?_
    split
    · rename_i c _ _ _ _ _
      cases (c == Value.type "enumerate") <;> (wp_walk using it1; exact ⟨_, rfl, h⟩)
    · wp_walk using it1
      exact ⟨_, rfl, h⟩
/-- enumerate(t) of a tuple: two new objects -/
theorem call_enumT {P : Program} {w : World} {A : Around} {E : Value → Shared → Prop} {s : Shared} {t : Addr} {items : Array Value} {Q : Value → Shared → Prop} (ht : s.heap.IsTuple t items)
    (h : ∀ h', IsEnum h' (s.heap.objs.size + 1) s.heap.objs.size 0 .none → h'.IsTupleIter s.heap.objs.size t 0 → (∀ b o, s.heap.get? b = some o → h'.get? b = some o) → Q (.ref (s.heap.objs.size + 1)) { s with heap := h' }) :
    wpAny (model P w) A (call (.type "enumerate") [.ref t]) Q E s := by
  refine callType_new F.called_enumerate (by decide) (F.typeCall_enumerate_1 _) (F.newCall_enumerate_1 _) (fun obj => F.args_object_init_2 obj _) F.entry_enumerate_new (meets_enum1 (begins_tuple t items)) ⟨ht, ?_⟩
  have z1 : ∀ ob : Obj, (s.heap.push ob).objs.size = s.heap.objs.size + 1 := fun ob => Heap.size_push ..
  show _ ∧ _
  rw [z1]
  have q := Heap.get?_push_size (s.heap.push { cls := .type "tuple_iterator", data := .fields #[.ref t, .int 0 0] }) (o := { cls := .type "enumerate", data := .fields #[.none, .bool false, .ref s.heap.objs.size, rawInt 0, .none, .none] }) rfl
  rw [z1] at q
  exact ⟨⟨_, q, rfl⟩, h _ q ⟨_, Heap.get?_push_of_some _ (Heap.get?_push_size _ rfl), rfl, rfl⟩ fun b o x => Heap.get?_push_of_some _ (Heap.get?_push_of_some _ x)⟩
def iEnumT (K : PySem.W.Frag) (ta : TA) : TI := fun σ H R => ta σ H fun vs H1 => ∃ a xs, vs = [.ref a] ∧ SqT K H1 a xs ∧ R (IteT K a) H1
theorem pi_enumT {X : Cx} {e : Expr} {ta : TA} {p pos tpos : Pos} {elts : List Expr} {kk : Nat} (hg : Gl X "enumerate") (hm : X.mg "enumerate" = none) (ha : PA X [e] ta) (hs : starEach [e] X.env = [(false, eval e X.env)] := by rfl) :
    PI X (.Tuple elts kk tpos) (.Call (.Name "enumerate" p) [e] [] pos) (iEnumT X.K ta) := by
  refine ⟨fun pins s σ H R I h => Call_ (ld_blt I hg hm boot_enumerate (PyProof.Rows.callWith_type1 (thn (ha.run pos pins s σ H _ I h) fun us s1 ⟨vs, H1, I1, r1, a, xs, ex, hq, q⟩ => ?_) hs rfl))⟩
  subst ex
  rcases r1 with _ | ⟨r, rr⟩
  cases rr
  cases r
  obtain ⟨its, rv, pt, hz⟩ := I1.tuple hq
  refine call_enumT pt fun h' he hit hk => wpAny_pyIter_enum he ?_
  have la : a < s1.heap.objs.size := pt.lt
  refine ⟨s1.heap.objs.size + 1, [s1.heap.objs.size + 1, s1.heap.objs.size], _, _, H1, rfl, I1.kept (t' := s1.toks) hk, turn_enumT a _ _, ⟨⟨.none, he⟩, hit, Nat.succ_ne_self _, fun z => ?_⟩, fun b hb => ?_, q⟩
  · rw [← z] at la
    exact absurd la (Nat.not_lt.mpr (Nat.le_succ _))
  · have hle : s1.heap.objs.size ≤ b := by
      rcases (show b = s1.heap.objs.size + 1 ∨ b = s1.heap.objs.size by simpa using hb) with z | z
      · rw [z]
        exact Nat.le_succ _
      · rw [z]
        exact Nat.le_refl _
    exact I1.fpOk hle (I1.hok.fresh hle)
theorem walk_enumT {K : PySem.W.Frag} {a : Addr} {xs : List V} : Walk (IteT K a) xs.length (fun H => SqT K H a xs) (YPair (fun i => some (.int (i : Nat))) (fun i => xs[i]?)) := by
  refine ⟨fun i _ hi q => ⟨xs, xs[i], q, by simp [hi]⟩, fun _ q => ⟨xs, q, rfl⟩, fun i H v H' _ q ⟨T, x, h1, h2, h3, h4⟩ => ?_⟩
  exact ⟨T, .int (i : Nat), x, h1, h2, h3, rfl, h4 xs q⟩
end Z
namespace Z
open PySem PySem.Spec PyProof.Rows L2
local macro_rules | `(tactic| walk_at "look") => `(tactic| first | assumption | exact upd_same | exact SqL.of (by assumption) | exact SqT.of (by assumption) | exact SqL.of upd_same | exact SqT.of upd_same)
local macro_rules | `(tactic| walk_at "at") => `(tactic| first | exact at0 | exact at1 | exact at2 | exact at3 | exact ix0 | exact ix1 | assumption | exact atI_nat (by rfl))
local macro_rules | `(tactic| walk_at "sd") => `(tactic| ((try dsimp only); first | assumption | omega | (unfold CMul; omega) | (unfold CDiv; omega) | (unfold CPow; decide) | decide))
local macro_rules | `(tactic| walk_at "st") => `(tactic| first
  | (refine ⟨_, rfl, ?_⟩)
  | (refine ⟨_, _, rfl, rfl, ?_⟩)
  | (refine ⟨rfl, ?_⟩)
  | (refine .inl ⟨_, rfl, ?_⟩)
  | (refine ⟨_, _, _, _, rfl, rfl, (by walk_at "look"), (by walk_at "at"), ?_⟩)
  | (refine ⟨_, _, rfl, .inl (by walk_at "look"), ?_⟩)
  | (refine And.intro (by walk_at "sd") ?_)
  | fail "no step")
local macro_rules | `(tactic| walk_at "go") => `(tactic| repeat' (walk_at "st"))
local macro_rules | `(tactic| walk_at "ans") => `(tactic| (intro Q q; (repeat' (walk_at "st")); exact q))

/-- the law's source of numbers -/
def DSt (H : Hp) (d : Addr) : Prop := ∃ (s x : Int) (r : List Int), H d = some (.lst (.int s :: .int x :: r.map V.int)) ∧ 0 ≤ s ∧ s < 2147483647 ∧ 0 ≤ x ∧ (∀ y ∈ r, 0 ≤ y) ∧ r.length ≤ 63
@[irreducible] def sp_law_below (K : PySem.W.Frag) : Sp := fun vs H Q _ => ∃ (d : Addr) (n : Int), vs = [.ref d, .int n] ∧ DSt H d ∧ 0 < n ∧ n < 2 ^ 200 ∧
  ∀ (r : Int) (H' : Hp), 0 ≤ r → r < n → DSt H' d → Fx d H H' → Q (.int r) H'
def t_law_below_0a_0 (K : PySem.W.Frag) (E : XK) : TS := (tAsg (tBM K "list" rPopAt (tVar 0) (tCons (tC (.int 2)) tNil)) (gSub (tVar 0) (tC (.int 1)) rSetL))

def t_law_below_1a_2 (K : PySem.W.Frag) (E : XK) : TS := (tRet (tVar 2))

def t_law_below_1a_1 (K : PySem.W.Frag) (E : XK) : TS := tSeq (tAsg (tOp oFdvW (tOp (rIxL K) (tVar 0) (tC (.int 1))) (tVar 1)) (gSub (tVar 0) (tC (.int 1)) rSetL)) (t_law_below_1a_2 K E)

def t_law_below_1a_0 (K : PySem.W.Frag) (E : XK) : TS := tSeq (tAsg (tOp oMod (tCB cInt (tCons (tOp (rIxL K) (tVar 0) (tC (.int 1))) tNil)) (tVar 1)) (gName 2)) (t_law_below_1a_1 K E)

def t_law_below_3 (K : PySem.W.Frag) (E : XK) : TS := (tRet (tOp oMod (tCB cInt (tCons (tOp oFdv (tOp (rIxL K) (tVar 0) (tC (.int 0))) (tC (.int 64))) tNil)) (tVar 1)))

def t_law_below_2 (K : PySem.W.Frag) (E : XK) : TS := tSeq (tAsg (tOp oMod (tCB cInt (tCons (tOp oAdd (tOp oMul (tOp (rIxL K) (tVar 0) (tC (.int 0))) (tC (.int 48271))) (tC (.int 11))) tNil)) (tC (.int 2147483647))) (gSub (tVar 0) (tC (.int 0)) rSetL)) (t_law_below_3 K E)

@[irreducible] def t_law_below_1 (K : PySem.W.Frag) (E : XK) : TS := tSeq (tIfS (tTest (tOp oGt (tOp (rIxL K) (tVar 0) (tC (.int 1))) (tC (.int 0))))
    (t_law_below_1a_0 K E) tNext) (t_law_below_2 K E)

@[irreducible] def t_law_below_0 (K : PySem.W.Frag) (E : XK) : TS := tSeq (tIfS (tAnd (tTest (tOp rEq (tOp (rIxL K) (tVar 0) (tC (.int 1))) (tC (.int 0)))) (tTest (tOp oGt (tCB (cLen K) (tCons (tVar 0) tNil)) (tC (.int 2)))))
    (t_law_below_0a_0 K E) tNext) (t_law_below_1 K E)

theorem below_1 {K : PySem.W.Frag} {E : XK} {D : Ends} {d : Addr} {n : Int} {H : Hp} (hD : DSt H d) (hn0 : 0 < n) (hn1 : n < 2 ^ 200)
    (k : ∀ (r : Int) (H' : Hp), 0 ≤ r → r < n → DSt H' d → Fx d H H' → D.rt (.int r) H') : t_law_below_1 K E D [some (.ref d), some (.int n), none] H := by
  obtain ⟨s, x, r, hd, hs0, hs1, hx0, hr0, hrl⟩ := hD
  unfold t_law_below_1
  refine if_go (decide (0 < x)) (by walk_at "ans") (fun c => ?_) (fun c => ?_)
  · have hx : 0 < x := of_decide_eq_true c
    have hw : CDivW x n := wide_div hn0 (b := 200) (by omega) (by decide) (by decide)
    walk_at "go"
    refine k _ _ (Int.emod_nonneg _ (by omega)) (Int.emod_lt_of_pos _ hn0) ?_ fx_upd
    exact ⟨s, x / n, r, upd_same, hs0, hs1, Int.ediv_nonneg hx0 (by omega), hr0, hrl⟩
  · walk_at "go"
    refine k _ _ (Int.emod_nonneg _ (by omega)) (Int.emod_lt_of_pos _ hn0) ?_ fx_upd
    exact ⟨(s * 48271 + 11) % 2147483647, x, r, upd_same, Int.emod_nonneg _ (by omega), Int.emod_lt_of_pos _ (by omega), hx0, hr0, hrl⟩
theorem pure_law_below {K : PySem.W.Frag} (vs : List V) (H : Hp) (Q : VK) (E : XK) (h : sp_law_below K vs H Q E) : t_law_below_0 K E { nx := fun _ H' => Q .non H', rt := Q } (start ["_law_d", "_law_size", "_law_result"] vs) H := by
  unfold sp_law_below at h
  obtain ⟨d, n, rfl, hD, hn0, hn1, k⟩ := h
  show t_law_below_0 K E _ [some (.ref d), some (.int n), none] H
  unfold t_law_below_0
  obtain ⟨s, x, r, hd, hs0, hs1, hx0, hr0, hrl⟩ := id hD
  refine if_go (decide (V.int x = V.int 0) && decide (2 < ((r.map V.int).length : Int) + 1 + 1)) (fun Q q => and_go (decide (V.int x = V.int 0)) (decide (2 < ((r.map V.int).length : Int) + 1 + 1)) (by walk_at "ans") ?_ q) (fun c => ?_) (fun c => ?_)
  · intro _
    walk_at "ans"
  · rw [List.length_map] at c
    have c2 : 0 < r.length := by
      have := (Bool.and_eq_true_iff.mp c).2
      have := of_decide_eq_true this
      omega
    obtain ⟨y, r2, rfl⟩ : ∃ y r2, r = y :: r2 := by
      cases r with
      | nil => cases c2
      | cons y r2 => exact ⟨y, r2, rfl⟩
    have hi : seqIndex? 2 (V.int s :: V.int x :: (y :: r2).map V.int).length = some 2 := by
      unfold seqIndex?
      simp
      omega
    have ht : tyV K "list" (.ref d) H := .inl ⟨rfl, _, SqL.of hd⟩
    refine ⟨_, rfl, ht, d, _, 2, 2, _, rfl, rfl, hd, by decide, by decide, hi, rfl, ?_⟩
    walk_at "go"
    refine below_1 ⟨s, y, r2, upd_same, hs0, hs1, hr0 y (List.mem_cons_self ..), fun z hz => hr0 z (List.mem_cons_of_mem _ hz), by have := hrl; rw [List.length_cons] at this; omega⟩ hn0 hn1 fun r H' h1 h2 h3 h4 => k r H' h1 h2 h3 (fx_trans (fx_trans fx_upd fx_upd) h4)
  · exact below_1 hD hn0 hn1 k

/-- one of some items -/
@[irreducible] def sp_law_pick (K : PySem.W.Frag) : Sp := fun vs H Q _ => ∃ (d l : Addr) (xs : List V), vs = [.ref d, .ref l] ∧ DSt H d ∧ H l = some (.lst xs) ∧ l ≠ d ∧ xs ≠ [] ∧ xs.length ≤ 1000 ∧
  ∀ (i : Nat) (v : V) (H' : Hp), xs[i]? = some v → DSt H' d → Fx d H H' → Q v H'
def t_law_pick_0 (K : PySem.W.Frag) (E : XK) : TS := (tRet (tOp (rIxL K) (tVar 1) (tCall (sp_law_below K) [] E0 (tCons (tVar 0) (tCons (tCB (cLen K) (tCons (tVar 1) tNil)) tNil)))))

theorem pure_law_pick {K : PySem.W.Frag} (vs : List V) (H : Hp) (Q : VK) (E : XK) (h : sp_law_pick K vs H Q E) : t_law_pick_0 K E { nx := fun _ H' => Q .non H', rt := Q } (start ["_law_d", "_law_items"] vs) H := by
  unfold sp_law_pick at h
  obtain ⟨d, l, xs, rfl, hD, hl, nl, hne, hlen, k⟩ := h
  have h0 : 0 < xs.length := List.length_pos_iff.mpr hne
  walk_at "go"
  unfold sp_law_below
  refine ⟨d, xs.length, rfl, hD, by omega, by omega, fun r H' h1 h2 h3 h4 => ?_⟩
  have hr : r.toNat < xs.length := by omega
  have e : r = ((r.toNat : Nat) : Int) := by omega
  refine ⟨l, xs, r, xs[r.toNat], rfl, rfl, SqL.of (h4 l _ nl hl), at_of e (List.getElem?_eq_getElem hr), ?_⟩
  exact k r.toNat _ H' (List.getElem?_eq_getElem hr) h3 h4

end Z
namespace Z
open PySem PySem.Spec PyProof.Rows L2
local macro_rules | `(tactic| walk_at "look") => `(tactic| first | assumption | exact upd_same | exact SqL.of (by assumption) | exact SqT.of (by assumption) | exact SqL.of upd_same | exact SqT.of upd_same)
local macro_rules | `(tactic| walk_at "at") => `(tactic| first | exact at0 | exact at1 | exact at2 | exact at3 | exact ix0 | exact ix1 | assumption | exact atI_nat (by rfl))
local macro_rules | `(tactic| walk_at "sd") => `(tactic| ((try dsimp only); first | assumption | omega | (unfold CMul; omega) | (unfold CDiv; omega) | (unfold CPow; decide) | decide))
local macro_rules | `(tactic| walk_at "st") => `(tactic| first
  | (refine ⟨_, rfl, ?_⟩)
  | (refine ⟨_, _, rfl, rfl, ?_⟩)
  | (refine ⟨rfl, ?_⟩)
  | (refine .inl ⟨_, rfl, ?_⟩)
  | (refine ⟨_, _, _, _, rfl, rfl, (by walk_at "look"), (by walk_at "at"), ?_⟩)
  | (refine ⟨_, _, rfl, .inl (by walk_at "look"), ?_⟩)
  | (refine And.intro (by walk_at "sd") ?_)
  | fail "no step")
local macro_rules | `(tactic| walk_at "go") => `(tactic| repeat' (walk_at "st"))
local macro_rules | `(tactic| walk_at "ans") => `(tactic| (intro Q q; (repeat' (walk_at "st")); exact q))

/-! ### what a value is between -/
def isBet : PyData → Int → Int → Bool
  | .int i, a, b => decide (a ≤ i) && decide (i ≤ b)
  | _, _, _ => false
@[irreducible] def sp_is_between (K : PySem.W.Frag) : Sp := fun vs H Q _ => ∃ (v : V) (d : PyData) (a b : Int), vs = [v, .int a, .int b] ∧ Dp K H v d ∧ Q (.bl (isBet d a b)) H
def t_is_between_0 (K : PySem.W.Frag) (E : XK) : TS := (tRet (tAndV (tCB (rIsi K) (tCons (tVar 0) (tCons (tC (.ty "int")) tNil))) (tAndV (tNotV (tCB (rIsi K) (tCons (tVar 0) (tCons (tC (.ty "bool")) tNil)))) (tChain oLe oLe (tVar 1) (tVar 0) (tVar 2)))))

theorem pure_is_between {K : PySem.W.Frag} (vs : List V) (H : Hp) (Q : VK) (E : XK) (h : sp_is_between K vs H Q E) : t_is_between_0 K E { nx := fun _ H' => Q .non H', rt := Q } (start ["value", "least", "most"] vs) H := by
  unfold sp_is_between at h
  obtain ⟨v, d, a, b, rfl, hd, k⟩ := h
  show t_is_between_0 K E _ [some v, some (.int a), some (.int b)] H
  have i1 : ∀ (b1 : Bool), kitB (tyN d) "int" = some b1 → ∀ Q : VK, Q (.bl b1) H → (tCB (rIsi K) (tCons (tVar 0) (tCons (tC (.ty "int")) tNil))) [some v, some (.int a), some (.int b)] H Q :=
    fun b1 e Q q => ⟨v, rfl, isi_go hd e q⟩
  have i2 : ∀ (b1 : Bool), kitB (tyN d) "bool" = some b1 → ∀ Q : VK, Q (.bl (!b1)) H → (tNotV (tCB (rIsi K) (tCons (tVar 0) (tCons (tC (.ty "bool")) tNil)))) [some v, some (.int a), some (.int b)] H Q :=
    fun b1 e Q q => ⟨v, rfl, isi_go (Q := fun x H' => ∃ c, x = .bl c ∧ Q (.bl (!c)) H') hd e ⟨b1, rfl, q⟩⟩
  cases d with
  | int i =>
    obtain rfl := dp_int hd
    refine andV_go true (decide (a ≤ i) && decide (i ≤ b)) (i1 true (show kitB "int" "int" = some true by decide +kernel)) (fun _ Q q => andV_go true (decide (a ≤ i) && decide (i ≤ b)) (i2 false (show kitB "int" "bool" = some false by decide +kernel)) (fun _ Q q => ?_) q) k
    refine ⟨_, rfl, _, rfl, a, i, rfl, rfl, _, rfl, ?_⟩
    by_cases c : a ≤ i
    · rw [decide_eq_true c] at q ⊢
      exact iteT ⟨_, rfl, i, b, rfl, rfl, q⟩
    · rw [decide_eq_false c] at q ⊢
      exact iteF q
  | bool x =>
    exact andV_go true false (i1 true (show kitB "bool" "int" = some true by decide +kernel)) (fun _ Q q => andV_go false false (i2 true (show kitB "bool" "bool" = some true by decide +kernel)) (fun z => nomatch z) q) k
  | none => exact andV_go false false (i1 false (show kitB "NoneType" "int" = some false by decide +kernel)) (fun z => nomatch z) k
  | str x => exact andV_go false false (i1 false (show kitB "str" "int" = some false by decide +kernel)) (fun z => nomatch z) k
  | list x => exact andV_go false false (i1 false (show kitB "list" "int" = some false by decide +kernel)) (fun z => nomatch z) k
  | tuple x => exact andV_go false false (i1 false (show kitB "tuple" "int" = some false by decide +kernel)) (fun z => nomatch z) k
  | dict x => exact andV_go false false (i1 false (show kitB "dict" "int" = some false by decide +kernel)) (fun z => nomatch z) k

/-! ### verses -/
theorem str_beq (a b : Str) : (a == b) = decide (b = a) := by
  by_cases h : b = a
  · rw [decide_eq_true h, h]
    exact beq_self_eq_true a
  · rw [decide_eq_false h]
    exact beq_false_of_ne fun z => h z.symm
def isVerse : PyData → Bool
  | .tuple [d0, d1] => (match d0 with
    | .str x => (decide (x = "on") || decide (x = "back")) && isBet d1 1 6
    | _ => false)
  | _ => false
@[irreducible] def sp_is_verse (K : PySem.W.Frag) : Sp := fun vs H Q _ => ∃ (v : V) (d : PyData), vs = [v] ∧ Dp K H v d ∧ ∀ H', Ex H H' → Q (.bl (isVerse d)) H'
def t_is_verse_0a_0 (K : PySem.W.Frag) (E : XK) : TS := (tRet (tC (.bl false)))

def t_is_verse_1 (K : PySem.W.Frag) (E : XK) : TS := (tRet (tAndV (tOp (rIn K false) (tOp (rIxT K) (tVar 0) (tC (.int 0))) (tTup (tCons (tC (.str "on")) (tCons (tC (.str "back")) tNil)))) (tCall (sp_is_between K) [] E0 (tCons (tOp (rIxT K) (tVar 0) (tC (.int 1))) (tCons (tC (.int 1)) (tCons (tC (.int 6)) tNil))))))

@[irreducible] def t_is_verse_0 (K : PySem.W.Frag) (E : XK) : TS := tSeq (tIfS (tOr (tNot (tB (tCB (rIsi K) (tCons (tVar 0) (tCons (tC (.ty "tuple")) tNil))))) (tOr (tTest (tOp rNe (tCB (cLen K) (tCons (tVar 0) tNil)) (tC (.int 2)))) (tNot (tB (tCB (rIsi K) (tCons (tOp (rIxT K) (tVar 0) (tC (.int 0))) (tCons (tC (.ty "str")) tNil)))))))
    (t_is_verse_0a_0 K E) tNext) (t_is_verse_1 K E)

theorem verse_no {K : PySem.W.Frag} {H : Hp} {v : V} {d : PyData} {Q : VK} {E : XK} (h : Dp K H v d) (hn : kitB (tyN d) "tuple" = some false) (k : Q (.bl false) H) :
    t_is_verse_0 K E { nx := fun _ H' => Q .non H', rt := Q } [some v] H := by
  unfold t_is_verse_0
  refine if_go true (fun Q q => or_go true false (fun Q q => ⟨v, rfl, isi_go (Q := fun x H' => ∃ c, x = .bl c ∧ Q (!c) H') h hn ⟨false, rfl, q⟩⟩) (fun z => nomatch z) q) (fun _ => ?_) (fun z => nomatch z)
  exact k
theorem pure_is_verse {K : PySem.W.Frag} (vs : List V) (H : Hp) (Q : VK) (E : XK) (h : sp_is_verse K vs H Q E) : t_is_verse_0 K E { nx := fun _ H' => Q .non H', rt := Q } (start ["value"] vs) H := by
  unfold sp_is_verse at h
  obtain ⟨v, d, rfl, hd, k⟩ := h
  show t_is_verse_0 K E _ [some v] H
  cases d with
  | none => exact verse_no hd (show kitB "NoneType" "tuple" = some false by decide +kernel) (k H (ex_refl H))
  | bool x => exact verse_no hd (show kitB "bool" "tuple" = some false by decide +kernel) (k H (ex_refl H))
  | int x => exact verse_no hd (show kitB "int" "tuple" = some false by decide +kernel) (k H (ex_refl H))
  | str x => exact verse_no hd (show kitB "str" "tuple" = some false by decide +kernel) (k H (ex_refl H))
  | list x => exact verse_no hd (show kitB "list" "tuple" = some false by decide +kernel) (k H (ex_refl H))
  | dict x => exact verse_no hd (show kitB "dict" "tuple" = some false by decide +kernel) (k H (ex_refl H))
  | tuple ds =>
    have hy : kitB (tyN (.tuple ds)) "tuple" = some true := show kitB "tuple" "tuple" = some true by decide +kernel
    obtain ⟨a, xs, rfl, hs, hall⟩ := dp_tup hd
    have hl := dpa_len hall
    have h1 : ∀ Q : Bool → Hp → Prop, Q false H → (tNot (tB (tCB (rIsi K) (tCons (tVar 0) (tCons (tC (.ty "tuple")) tNil))))) [some (V.ref a)] H Q := fun Q q =>
      ⟨_, rfl, isi_go (Q := fun x H' => ∃ c, x = .bl c ∧ Q (!c) H') hd hy ⟨true, rfl, q⟩⟩
    have h2 : ∀ Q : Bool → Hp → Prop, Q (!decide (V.int (xs.length : Int) = V.int 2)) H → (tTest (tOp rNe (tCB (cLen K) (tCons (tVar 0) tNil)) (tC (.int 2)))) [some (V.ref a)] H Q := fun Q q =>
      ⟨_, rfl, a, xs, rfl, .inr hs, rfl, _, rfl, q⟩
    unfold t_is_verse_0
    by_cases hlen : xs.length = 2
    · obtain ⟨x0, x1, rfl⟩ : ∃ x0 x1, xs = [x0, x1] := by
        match xs, hlen with
        | [x0, x1], _ => exact ⟨x0, x1, rfl⟩
      cases hall with
      | cons e0 r =>
        rename_i d0 ds
        cases r with
        | cons e1 r =>
          rename_i d1 ds
          cases r
          have h3 : ∀ b1, kitB (tyN d0) "str" = some b1 → ∀ Q : Bool → Hp → Prop, Q (!b1) H → (tNot (tB (tCB (rIsi K) (tCons (tOp (rIxT K) (tVar 0) (tC (.int 0))) (tCons (tC (.ty "str")) tNil))))) [some (V.ref a)] H Q := fun b1 e Q q =>
            ⟨_, rfl, a, _, 0, x0, rfl, rfl, hs, at0, isi_go (Q := fun x H' => ∃ c, x = .bl c ∧ Q (!c) H') e0 e ⟨b1, rfl, q⟩⟩
          have go : ∀ b1, kitB (tyN d0) "str" = some b1 → (b1 = false → isVerse (.tuple [d0, d1]) = false) → (b1 = true → ∃ x, d0 = .str x) →
              tSeq (tIfS (tOr (tNot (tB (tCB (rIsi K) (tCons (tVar 0) (tCons (tC (.ty "tuple")) tNil))))) (tOr (tTest (tOp rNe (tCB (cLen K) (tCons (tVar 0) tNil)) (tC (.int 2)))) (tNot (tB (tCB (rIsi K) (tCons (tOp (rIxT K) (tVar 0) (tC (.int 0))) (tCons (tC (.ty "str")) tNil)))))))
                (t_is_verse_0a_0 K E) tNext) (t_is_verse_1 K E) { nx := fun _ H' => Q .non H', rt := Q } [some (V.ref a)] H := fun b1 e f1 f2 => by
            refine if_go (!b1) (fun Q q => or_go false (!b1) h1 (fun _ Q q => or_go false (!b1) (fun Q q => h2 Q (by rw [d_int]; exact q)) (fun _ => h3 b1 e) q) q) (fun c => ?_) (fun c => ?_)
            · have c2 : b1 = false := by simpa using c
              show Q (.bl false) H
              rw [← f1 c2]
              exact k H (ex_refl H)
            · have c2 : b1 = true := by simpa using c
              obtain ⟨x, rfl⟩ := f2 c2
              obtain rfl := dp_str e0
              refine ⟨_, rfl, a, _, 0, _, rfl, rfl, hs, at0, by decide, fun p hp => ?_⟩
              have hE : Ex H (upd H p (.tup [.str "on", .str "back"])) := ex_new hp
              have r1 : inV (.str x) [.str "on", .str "back"] = (decide (x = "on") || decide (x = "back")) := by
                show ((("on" : Str) == x) || ((("back" : Str) == x) || false)) = _
                rw [Bool.or_false, str_beq, str_beq]
              refine ⟨p, _, rfl, .inr (SqT.of upd_same), rfl, rfl, _, rfl, ?_⟩
              rw [if_neg Bool.false_ne_true, r1]
              by_cases c3 : (decide (x = "on") || decide (x = "back")) = true
              · rw [c3]
                refine iteT ⟨_, rfl, a, _, 1, x1, rfl, rfl, sqt_ex hE hs, at1, ?_⟩
                unfold sp_is_between
                refine ⟨x1, d1, 1, 6, rfl, dp_ex hE e1, ?_⟩
                have e5 : isBet d1 1 6 = isVerse (.tuple [.str x, d1]) := by
                  show _ = ((decide (x = "on") || decide (x = "back")) && isBet d1 1 6)
                  rw [c3, Bool.true_and]
                rw [e5]
                exact k _ hE
              · have c4 : (decide (x = "on") || decide (x = "back")) = false := by simpa using c3
                rw [c4]
                refine iteF ?_
                have e5 : false = isVerse (.tuple [.str x, d1]) := by
                  show _ = ((decide (x = "on") || decide (x = "back")) && isBet d1 1 6)
                  rw [c4, Bool.false_and]
                show Q (.bl false) _
                rw [e5]
                exact k _ hE
          cases d0 with
          | str x => exact go true (show kitB "str" "str" = some true by decide +kernel) (fun z => nomatch z) (fun _ => ⟨x, rfl⟩)
          | none => exact go false (show kitB "NoneType" "str" = some false by decide +kernel) (fun _ => rfl) (fun z => nomatch z)
          | bool x => exact go false (show kitB "bool" "str" = some false by decide +kernel) (fun _ => rfl) (fun z => nomatch z)
          | int x => exact go false (show kitB "int" "str" = some false by decide +kernel) (fun _ => rfl) (fun z => nomatch z)
          | list x => exact go false (show kitB "list" "str" = some false by decide +kernel) (fun _ => rfl) (fun z => nomatch z)
          | tuple x => exact go false (show kitB "tuple" "str" = some false by decide +kernel) (fun _ => rfl) (fun z => nomatch z)
          | dict x => exact go false (show kitB "dict" "str" = some false by decide +kernel) (fun _ => rfl) (fun z => nomatch z)
    · refine if_go true (fun Q q => or_go false true h1 (fun _ Q q => or_go true false (fun Q q => h2 Q (by rw [d_int, decide_eq_false (by omega)]; exact q)) (fun z => nomatch z) q) q) (fun _ => ?_) (fun z => nomatch z)
      have : isVerse (.tuple ds) = false := by
        match ds, hl with
        | [], _ => rfl
        | [_], _ => rfl
        | [_, _], h => exact absurd h hlen
        | _ :: _ :: _ :: _, _ => rfl
      show Q (.bl false) H
      rw [← this]
      exact k H (ex_refl H)

end Z
namespace Z
open PySem PySem.Spec PyProof.Rows L2
local macro_rules | `(tactic| walk_at "look") => `(tactic| first | assumption | exact upd_same | exact SqL.of (by assumption) | exact SqT.of (by assumption) | exact SqL.of upd_same | exact SqT.of upd_same)
local macro_rules | `(tactic| walk_at "at") => `(tactic| first | exact at0 | exact at1 | exact at2 | exact at3 | exact ix0 | exact ix1 | assumption | exact atI_nat (by rfl))
local macro_rules | `(tactic| walk_at "sd") => `(tactic| ((try dsimp only); first | assumption | omega | (unfold CMul; omega) | (unfold CDiv; omega) | (unfold CPow; decide) | decide))
local macro_rules | `(tactic| walk_at "st") => `(tactic| first
  | (refine ⟨_, rfl, ?_⟩)
  | (refine ⟨_, _, rfl, rfl, ?_⟩)
  | (refine ⟨rfl, ?_⟩)
  | (refine .inl ⟨_, rfl, ?_⟩)
  | (refine ⟨_, _, _, _, rfl, rfl, (by walk_at "look"), (by walk_at "at"), ?_⟩)
  | (refine ⟨_, _, rfl, .inl (by walk_at "look"), ?_⟩)
  | (refine And.intro (by walk_at "sd") ?_)
  | fail "no step")
local macro_rules | `(tactic| walk_at "go") => `(tactic| repeat' (walk_at "st"))
local macro_rules | `(tactic| walk_at "ans") => `(tactic| (intro Q q; (repeat' (walk_at "st")); exact q))

/-! ### rhymes: verses as data -/
abbrev Ve := Bool × Int
def wayS (b : Bool) : Str := if b then "on" else "back"
def vD (v : Ve) : PyData := .tuple [.str (wayS v.1), .int v.2]
def vsD (vs : List Ve) : PyData := .tuple (vs.map vD)
def riseOf (v : Ve) : Int := if v.1 then v.2 else 1 - v.2
def rises (vs : List Ve) : List Int := vs.map riseOf
/-- a right rhyme -/
structure RhOk (vs : List Ve) (left : Int) : Prop where
  l1 : 1 ≤ vs.length
  l4 : vs.length ≤ 4
  cnt : ∀ v ∈ vs, 1 ≤ v.2 ∧ v.2 ≤ 6
  lf : 1 ≤ left ∧ left ≤ 3
def rhF (tv : V) (left : Int) (tr : Addr) : List (Str × V) := putF "rises" (.ref tr) (putF "own_left" (.int left) (putF "own_verses" tv []))
theorem rhF_v (tv : V) (left : Int) (tr : Addr) : (rhF tv left tr).lookup ("own_verses" : Str) = some tv := by
  unfold rhF
  rw [lookup_putF, if_neg (by decide +kernel), lookup_putF, if_neg (by decide +kernel), lookup_putF, if_pos rfl]
theorem rhF_l (tv : V) (left : Int) (tr : Addr) : (rhF tv left tr).lookup ("own_left" : Str) = some (.int left) := by
  unfold rhF
  rw [lookup_putF, if_neg (by decide +kernel), lookup_putF, if_pos rfl]
theorem rhF_r (tv : V) (left : Int) (tr : Addr) : (rhF tv left tr).lookup ("rises" : Str) = some (.ref tr) := by
  unfold rhF
  rw [lookup_putF, if_pos rfl]
theorem rhF_no (tv : V) (left : Int) (tr : Addr) {m : Str} (h1 : ¬ m = "rises") (h2 : ¬ m = "own_left") (h3 : ¬ m = "own_verses") : (rhF tv left tr).lookup m = none := by
  unfold rhF
  rw [lookup_putF, if_neg h1, lookup_putF, if_neg h2, lookup_putF, if_neg h3]
  rfl
/-- the class as the top leaves it -/
structure RhC (K : PySem.W.Frag) : Prop where
  cl : Cls K (He.ga K "Rhyme")
  nv : NoAttr K (He.ga K "Rhyme") "own_verses"
  nl : NoAttr K (He.ga K "Rhyme") "own_left"
  nr : NoAttr K (He.ga K "Rhyme") "rises"
/-- a rhyme stands at a -/
def RhAt (K : PySem.W.Frag) (H : Hp) (a : Addr) (vs : List Ve) (left : Int) : Prop :=
  ∃ (dx : Addr) (tv : V) (tr : Addr), H a = some (.ins (He.ga K "Rhyme") dx (rhF tv left tr)) ∧ Dp K H tv (vsD vs) ∧ SqT K H tr ((rises vs).map V.int)
theorem rh_ex {K : PySem.W.Frag} {H H' : Hp} {a : Addr} {vs : List Ve} {left : Int} (e : Ex H H') (h : RhAt K H a vs left) : RhAt K H' a vs left := by
  obtain ⟨dx, tv, tr, h1, h2, h3⟩ := h
  exact ⟨dx, tv, tr, e _ _ h1, dp_ex e h2, sqt_ex e h3⟩
theorem vsD_flat (vs : List Ve) : flatD (vsD vs) = true := by
  show flatDs (vs.map vD) = true
  induction vs with
  | nil => rfl
  | cons v vs ih =>
    show (flatD (vD v) && flatDs (vs.map vD)) = true
    rw [ih]
    rfl
theorem rh_fx {K : PySem.W.Frag} {H H' : Hp} {a d : Addr} {vs : List Ve} {left : Int} (hd : NoT (H d)) (na : a ≠ d) (e : Fx d H H') (h : RhAt K H a vs left) : RhAt K H' a vs left := by
  obtain ⟨dx, tv, tr, h1, h2, h3⟩ := h
  exact ⟨dx, tv, tr, e _ _ na h1, dp_fxN hd e (vsD_flat vs) h2, sqt_fxN hd e h3⟩
theorem isVerse_vD {v : Ve} (h : 1 ≤ v.2 ∧ v.2 ≤ 6) : isVerse (vD v) = true := by
  show ((decide (wayS v.1 = "on") || decide (wayS v.1 = "back")) && (decide (1 ≤ v.2) && decide (v.2 ≤ 6))) = true
  rw [decide_eq_true h.1, decide_eq_true h.2]
  cases v.1 <;> rfl
/-- the i-th verse's own tuple -/
theorem vs_at {K : PySem.W.Frag} {H : Hp} {xs : List V} {vs : List Ve} {i : Nat} {x : V} (h : DpAll K H xs (vs.map vD)) (e : xs[i]? = some x) :
    ∃ v t, vs[i]? = some v ∧ x = .ref t ∧ SqT K H t [.str (wayS v.1), .int v.2] := by
  obtain ⟨d, h1, h2⟩ := dpa_get' h e
  rw [List.getElem?_map] at h1
  cases q : vs[i]? with
  | none =>
    rw [q] at h1
    cases h1
  | some v =>
    rw [q] at h1
    have e2 : vD v = d := Option.some.inj h1
    subst e2
    obtain ⟨t, ys, rfl, hs, ha⟩ := dp_tup h2
    refine ⟨v, t, rfl, rfl, ?_⟩
    cases ha with
    | cons a1 r =>
      cases r with
      | cons a2 r =>
        cases r
        rw [dp_str a1, dp_int a2] at hs
        exact hs
@[irreducible] def sp_Rhymeu_initu (K : PySem.W.Frag) : Sp := fun ws H Q _ => ∃ (p dx : Addr) (v : V) (vs : List Ve) (left : Int), ws = [.ref p, v, .int left] ∧ H p = some (.ins (He.ga K "Rhyme") dx []) ∧ Dp K H v (vsD vs) ∧ RhOk vs left ∧
  ∀ H' : Hp, RhAt K H' p vs left → (∀ b o, H b = some o → b ≠ p → H' b = some o) → Q .non H'
def t_Rhymeu_initu_0a_0 (K : PySem.W.Frag) (E : XK) : TS := tNever

def t_Rhymeu_initu_1a_0a_0 (K : PySem.W.Frag) (E : XK) : TS := tNever

@[irreducible] def t_Rhymeu_initu_1a_0 (K : PySem.W.Frag) (E : XK) : TS := (tIfS (tNot (tB (tCall (sp_is_verse K) [] E0 (tCons (tVar 4) tNil))))
    (t_Rhymeu_initu_1a_0a_0 K E) tNext)

def t_Rhymeu_initu_2a_0 (K : PySem.W.Frag) (E : XK) : TS := tNever

def t_Rhymeu_initu_5 (K : PySem.W.Frag) (E : XK) : TS := (sFld K (tVar 0) (tCB (cTup K) (tCons (tLc (iTup K (tVar 1)) (gTup K 2 (gCons (gName 5) (gCons (gName 6) gNil))) tYes (tIf (tTest (tOp rEq (tVar 5) (tC (.str "on")))) (tVar 6) (tOp oSub (tC (.int 1)) (tVar 6))) [5, 6]) tNil)) "rises")

def t_Rhymeu_initu_4 (K : PySem.W.Frag) (E : XK) : TS := tSeq (sFld K (tVar 0) (tVar 2) "own_left") (t_Rhymeu_initu_5 K E)

def t_Rhymeu_initu_3 (K : PySem.W.Frag) (E : XK) : TS := tSeq (sFld K (tVar 0) (tVar 1) "own_verses") (t_Rhymeu_initu_4 K E)

@[irreducible] def t_Rhymeu_initu_2 (K : PySem.W.Frag) (E : XK) : TS := tSeq (tIfS (tNot (tB (tCall (sp_is_between K) [] E0 (tCons (tVar 2) (tCons (tC (.int 1)) (tCons (tC (.int 3)) tNil))))))
    (t_Rhymeu_initu_2a_0 K E) tNext) (t_Rhymeu_initu_3 K E)

@[irreducible] def t_Rhymeu_initu_1 (K : PySem.W.Frag) (E : XK) : TS := tSeq (tFor (iEnumT K (tCons (tVar 1) tNil)) (gTup K 2 (gCons (gName 3) (gCons (gName 4) gNil)))
    (t_Rhymeu_initu_1a_0 K E)) (t_Rhymeu_initu_2 K E)

@[irreducible] def t_Rhymeu_initu_0 (K : PySem.W.Frag) (E : XK) : TS := tSeq (tIfS (tOr (tNot (tB (tCB (rIsi K) (tCons (tVar 1) (tCons (tC (.ty "tuple")) tNil))))) (tNot (tTest (tChain oLe oLe (tC (.int 1)) (tCB (cLen K) (tCons (tVar 1) tNil)) (tC (.int 4))))))
    (t_Rhymeu_initu_0a_0 K E) tNext) (t_Rhymeu_initu_1 K E)

theorem init_3 {K : PySem.W.Frag} {E : XK} {D : Ends} {p dx : Addr} {s3 s4 : Option V} {tv : V} {vs : List Ve} {left : Int} {H : Hp} (T : RhC K) (hp : H p = some (.ins (He.ga K "Rhyme") dx [])) (hv : Dp K H tv (vsD vs)) (hn : vs.length ≤ 4)
    (k : ∀ (σ' : L2.St) (H' : Hp), RhAt K H' p vs left → (∀ b o, H b = some o → b ≠ p → H' b = some o) → D.nx σ' H') : t_Rhymeu_initu_3 K E D [some (.ref p), some tv, some (.int left), s3, s4, none, none] H := by
  obtain ⟨a, xs, rfl, hs, hall⟩ := dp_tup hv
  have hl : xs.length = vs.length := by
    have := dpa_len hall
    rw [List.length_map] at this
    exact this
  refine ⟨_, rfl, _, rfl, p, _, dx, _, rfl, hp, T.cl, T.nv, (by show 0 < 1000; decide), ?_⟩
  refine ⟨_, rfl, _, rfl, p, _, dx, _, rfl, upd_same, T.cl, T.nl, (by show 1 < 1000; decide), ?_⟩
  rw [upd_upd]
  generalize hH2 : upd H p (.ins (He.ga K "Rhyme") dx (putF "own_left" (.int left) (putF "own_verses" (.ref a) []))) = H2
  have hp2 : H2 p = some (.ins (He.ga K "Rhyme") dx (putF "own_left" (.int left) (putF "own_verses" (.ref a) []))) := by
    rw [← hH2]
    exact upd_same
  have fx2 : Fx p H H2 := by
    rw [← hH2]
    exact fx_upd
  have hv2 : Dp K H2 (.ref a) (vsD vs) := dp_fxN (noT_i hp) fx2 (vsD_flat vs) hv
  have hs2 : SqT K H2 a xs := sqt_fxN (noT_i hp) fx2 hs
  have hall2 : DpAll K H2 xs (vs.map vD) := dpa_fxN (noT_i hp) fx2 (by exact vsD_flat vs) hall
  -- tuple([.. for way, count in verses])
  refine ⟨_, rfl, a, rfl, ⟨xs, hs2⟩, fun L hL => lc_map walk_tup (fun i => .int ((rises vs).getD i 0)) hL (by rw [hl]; exact Nat.lt_of_le_of_lt hn (by decide)) (fun H3 e => sqt_ex e hs2) ?_ ?_⟩
  · rintro i x H3 H4 hi e ⟨rfl, hx⟩ Q Zf q
    obtain ⟨ve, t, hve, rfl, ht⟩ := vs_at hall2 hx
    refine ⟨t, _, rfl, sqt_ex e ht, rfl, _, _, rfl, _, _, rfl, rfl, rfl, ?_⟩
    refine iteT (B := Zf H4) ?_
    have er : (rises vs).getD i 0 = riseOf ve := by
      unfold rises
      rw [List.getD_eq_getElem?_getD, List.getElem?_map, hve]
      rfl
    rw [er] at q
    refine ⟨_, rfl, rfl, _, rfl, ?_⟩
    rw [d_str]
    have q2 := q H4 (ex_refl H4)
    unfold riseOf at q2
    cases hb : ve.1 with
    | true =>
      rw [hb, if_pos rfl] at q2
      exact iteT ⟨_, rfl, q2⟩
    | false =>
      rw [hb, if_neg Bool.false_ne_true] at q2
      exact iteF ⟨_, rfl, 1, _, rfl, rfl, q2⟩
  · intro H3 e3 hL3
    have e4 : (List.range xs.length).map (fun i => V.int ((rises vs).getD i 0)) = (rises vs).map V.int := by
      refine map_range_get (rises vs) V.int 0 ?_
      unfold rises
      rw [List.length_map]
      exact hl
    rw [e4] at hL3
    refine ⟨L, _, rfl, .inl ⟨SqL.of hL3, fun l hl3 => ?_⟩⟩
    have hp4 : (upd H3 l (.tup ((rises vs).map V.int))) p = some (.ins (He.ga K "Rhyme") dx (putF "own_left" (.int left) (putF "own_verses" (.ref a) []))) := ex_new hl3 _ _ (e3 _ _ hp2)
    refine ⟨_, rfl, p, _, dx, _, rfl, hp4, T.cl, T.nr, (by show 2 < 1000; decide), ?_⟩
    refine k _ _ ⟨dx, .ref a, l, upd_same, ?_, ?_⟩ fun b o hb nb => ?_
    · exact dp_fxN (noT_i hp4) fx_upd (vsD_flat vs) (dp_ex (ex_new hl3) (dp_ex e3 hv2))
    · exact sqt_fxN (noT_i hp4) fx_upd (SqT.of upd_same)
    · rw [upd_ne nb]
      exact ex_new hl3 _ _ (e3 _ _ (fx2 b o nb hb))

end Z
namespace Z
open PySem PySem.Spec PyProof.Rows L2
local macro_rules | `(tactic| walk_at "look") => `(tactic| first | assumption | exact upd_same | exact SqL.of (by assumption) | exact SqT.of (by assumption) | exact SqL.of upd_same | exact SqT.of upd_same)
local macro_rules | `(tactic| walk_at "at") => `(tactic| first | exact at0 | exact at1 | exact at2 | exact at3 | exact ix0 | exact ix1 | assumption | exact atI_nat (by rfl))
local macro_rules | `(tactic| walk_at "sd") => `(tactic| ((try dsimp only); first | assumption | omega | (unfold CMul; omega) | (unfold CDiv; omega) | (unfold CPow; decide) | decide))
local macro_rules | `(tactic| walk_at "st") => `(tactic| first
  | (refine ⟨_, rfl, ?_⟩)
  | (refine ⟨_, _, rfl, rfl, ?_⟩)
  | (refine ⟨rfl, ?_⟩)
  | (refine .inl ⟨_, rfl, ?_⟩)
  | (refine ⟨_, _, _, _, rfl, rfl, (by walk_at "look"), (by walk_at "at"), ?_⟩)
  | (refine ⟨_, _, rfl, .inl (by walk_at "look"), ?_⟩)
  | (refine And.intro (by walk_at "sd") ?_)
  | fail "no step")
local macro_rules | `(tactic| walk_at "go") => `(tactic| repeat' (walk_at "st"))
local macro_rules | `(tactic| walk_at "ans") => `(tactic| (intro Q q; (repeat' (walk_at "st")); exact q))

theorem init_2 {K : PySem.W.Frag} {E : XK} {D : Ends} {p dx : Addr} {s3 s4 : Option V} {tv : V} {vs : List Ve} {left : Int} {H : Hp} (T : RhC K) (hp : H p = some (.ins (He.ga K "Rhyme") dx [])) (hv : Dp K H tv (vsD vs)) (ok : RhOk vs left)
    (k : ∀ (σ' : L2.St) (H' : Hp), RhAt K H' p vs left → (∀ b o, H b = some o → b ≠ p → H' b = some o) → D.nx σ' H') : t_Rhymeu_initu_2 K E D [some (.ref p), some tv, some (.int left), s3, s4, none, none] H := by
  unfold t_Rhymeu_initu_2
  refine if_go false (fun Q q => ?_) (fun z => nomatch z) (fun _ => ?_)
  · refine ⟨_, rfl, ?_⟩
    unfold sp_is_between
    refine ⟨_, .int left, 1, 3, rfl, .int left, true, ?_, q⟩
    show V.bl (decide (1 ≤ left) && decide (left ≤ 3)) = _
    rw [decide_eq_true ok.lf.1, decide_eq_true ok.lf.2]
    rfl
  · exact init_3 T hp hv ok.l4 k
theorem init_1 {K : PySem.W.Frag} {E : XK} {D : Ends} {p dx : Addr} {s3 s4 : Option V} {tv : V} {vs : List Ve} {left : Int} {H : Hp} (T : RhC K) (hp : H p = some (.ins (He.ga K "Rhyme") dx [])) (hv : Dp K H tv (vsD vs)) (ok : RhOk vs left)
    (k : ∀ (σ' : L2.St) (H' : Hp), RhAt K H' p vs left → (∀ b o, H b = some o → b ≠ p → H' b = some o) → D.nx σ' H') : t_Rhymeu_initu_1 K E D [some (.ref p), some tv, some (.int left), s3, s4, none, none] H := by
  unfold t_Rhymeu_initu_1
  obtain ⟨a, xs, rfl, hs, hall⟩ := dp_tup (id hv)
  refine ⟨_, rfl, a, xs, rfl, hs, for_it walk_enumT (fun i σ H' => Ex H H' ∧ ∃ s3 s4, σ = [some (.ref p), some (.ref a), some (.int left), s3, s4, none, none]) ⟨ex_refl H, s3, s4, rfl⟩ (fun i σ H' _ h => sqt_ex h.1 hs) ?_ ?_⟩
  · rintro i x σ H1 H2 hi ⟨e, u3, u4, rfl⟩ ⟨t, y1, y2, rfl, ht, rfl, h1, h2⟩
    cases h1
    have e2 : Ex H (upd H1 t (.tup [.int (i : Nat), y2])) := ex_trans e (ex_new ht)
    obtain ⟨d, hd1, hd2⟩ := dpa_get' hall h2
    refine ⟨t, _, rfl, SqT.of upd_same, rfl, _, _, rfl, _, _, rfl, rfl, ?_⟩
    unfold t_Rhymeu_initu_1a_0
    rw [List.getElem?_map] at hd1
    cases q : vs[i]? with
    | none =>
      rw [q] at hd1
      cases hd1
    | some v =>
      rw [q] at hd1
      have hm : v ∈ vs := List.mem_of_getElem? q
      have ed : vD v = d := Option.some.inj hd1
      subst ed
      refine if_goH false (fun Q q => ?_) (fun _ _ z => nomatch z) (fun H' e' _ => ?_)
      · refine ⟨_, rfl, ?_⟩
        unfold sp_is_verse
        refine ⟨y2, _, rfl, dp_ex e2 hd2, fun H' e' => ⟨true, ?_, q H' e'⟩⟩
        rw [isVerse_vD (ok.cnt v hm)]
      · exact ⟨ex_trans e2 e', _, _, rfl⟩
  · rintro σ H1 ⟨e, u3, u4, rfl⟩
    refine init_2 T (e _ _ hp) (dp_ex e hv) ok fun σ' H' r f => k σ' H' r fun b o hb nb => f b o (e b o hb) nb
theorem pure_Rhymeu_initu {K : PySem.W.Frag} (T : RhC K) (ws : List V) (H : Hp) (Q : VK) (E : XK) (h : sp_Rhymeu_initu K ws H Q E) :
    t_Rhymeu_initu_0 K E { nx := fun _ H' => Q .non H', rt := Q } (start ["self", "verses", "left", "index", "verse", "way", "count"] ws) H := by
  unfold sp_Rhymeu_initu at h
  obtain ⟨p, dx, v, vs, left, rfl, hp, hv, ok, k⟩ := h
  show t_Rhymeu_initu_0 K E _ [some (.ref p), some v, some (.int left), none, none, none, none] H
  obtain ⟨a, xs, rfl, hs, hall⟩ := dp_tup (id hv)
  have hl : xs.length = vs.length := by
    have := dpa_len hall
    rw [List.length_map] at this
    exact this
  unfold t_Rhymeu_initu_0
  refine if_go false (fun Q q => or_go false false (fun Q q => ⟨_, rfl, isi_go (Q := fun x H' => ∃ c, x = .bl c ∧ Q (!c) H') hv (show kitB "tuple" "tuple" = some true by decide +kernel) ⟨true, rfl, q⟩⟩) (fun _ Q q => ?_) q) (fun z => nomatch z) (fun _ => ?_)
  · refine ⟨_, rfl, a, xs, rfl, .inr hs, 1, _, rfl, rfl, _, rfl, ?_⟩
    have h1 := ok.l1
    have h4 := ok.l4
    refine iteT' (decide_eq_true (by omega)) ⟨_, _, rfl, rfl, _, rfl, ?_⟩
    rw [decide_eq_true (show (xs.length : Int) ≤ 4 by omega)]
    exact q
  · exact init_1 T hp hv ok fun σ' H' r f => k H' r f

/-- a rhyme of data (verses, left) -/
def tD (vs : List Ve) (left : Int) : PyData := .tuple [vsD vs, .int left]
theorem tD_flat (vs : List Ve) (left : Int) : flatD (tD vs left) = true := by
  show (flatD (vsD vs) && true) = true
  rw [vsD_flat]
  rfl
/-- (verses, left) taken apart -/
theorem tD_at {K : PySem.W.Frag} {H : Hp} {x : V} {vs : List Ve} {left : Int} (h : Dp K H x (tD vs left)) : ∃ a v, x = .ref a ∧ SqT K H a [v, .int left] ∧ Dp K H v (vsD vs) := by
  obtain ⟨a, xs, rfl, hs, hall⟩ := dp_tup h
  cases hall with
  | cons e0 r =>
    cases r with
    | cons e1 r =>
      cases r
      rw [dp_int e1] at hs
      exact ⟨a, _, rfl, hs, e0⟩
@[irreducible] def sp_law_made (K : PySem.W.Frag) : Sp := fun ws H Q _ => ∃ (x : V) (vs : List Ve) (left : Int), ws = [x] ∧ Dp K H x (tD vs left) ∧ RhOk vs left ∧
  ∀ (p : Addr) (H' : Hp), H p = none → Ex H H' → RhAt K H' p vs left → Q (.ref p) H'
def t_law_made_0 (K : PySem.W.Frag) (E : XK) : TS := (tRet (tMake (He.ga K "Rhyme") (sp_Rhymeu_initu K) [] E0 (tCons (tOp (rIxT K) (tVar 0) (tC (.int 0))) (tCons (tOp (rIxT K) (tVar 0) (tC (.int 1))) tNil))))

theorem pure_law_made {K : PySem.W.Frag} (ws : List V) (H : Hp) (Q : VK) (E : XK) (h : sp_law_made K ws H Q E) : t_law_made_0 K E { nx := fun _ H' => Q .non H', rt := Q } (start ["_law_t"] ws) H := by
  unfold sp_law_made at h
  obtain ⟨x, vs, left, rfl, hx, ok, k⟩ := h
  show t_law_made_0 K E _ [some x] H
  obtain ⟨a, v, rfl, hs, hv⟩ := tD_at hx
  refine ⟨_, rfl, a, _, 0, _, rfl, rfl, hs, at0, _, rfl, a, _, 1, _, rfl, rfl, hs, at1, fun p dp np nd ne => ?_⟩
  have e0 : Ex H (upd (upd H dp (.own p)) p (.ins (He.ga K "Rhyme") dp [])) := fun b o e => by
    rw [upd_ne (ne_of_none e np), upd_ne (ne_of_none e nd)]
    exact e
  unfold sp_Rhymeu_initu
  refine ⟨p, dp, v, vs, left, rfl, upd_same, dp_ex e0 hv, ok, fun H' r f => ⟨rfl, k p H' np (fun b o e => f b o (e0 b o e) (ne_of_none e np)) r⟩⟩

end Z
namespace Z
open PySem PySem.Spec PyProof.Rows L2
section
variable {X : Cx} {n j : Nat} {C : Addr} {sp : Sp} {E : XK}
/-- a == b, both instances of the class at C, by its own __eq__ -/
def rEqI (C : Addr) (sp : Sp) (E : XK) : R2 := fun x y H Q => ∃ a b dx dy fs gs, x = .ref a ∧ y = .ref b ∧ H a = some (.ins C dx fs) ∧ H b = some (.ins C dy gs) ∧ sp [.ref a, .ref b] H Q E
theorem op_eqI (c : Cm X.prog X.w X.K X.mg X.base n C "__eq__" sp) (hr : Room j X.A) (hk : n ≤ j) (hx : Passes (L2.CX X.prog X.w) X E) : OpR X (compareOp .Eq) (rEqI C sp E) := by
  obtain ⟨f, fd, ps, hc, hm, F, hb⟩ := c.ex
  intro pins s σ H x y v u Q I rx ry ⟨a, b, dx, dy, fs, gs, ex, ey, ha, hb2, q⟩
  subst ex ey
  cases rx
  cases ry
  obtain ⟨mA, J, _⟩ := ins_get I.hok ha
  obtain ⟨mB, J', _⟩ := ins_get I.hok hb2
  obtain ⟨od, J, _⟩ := J.look
  obtain ⟨od', J', _⟩ := J'.look
  obtain ⟨m, hF⟩ := I.fr
  refine PySem.W.cmp_K (op := .Eq) (tb := .ref C) hr.units0 hF I.ok.mod.kin J J'.type (by simp [PySem.W.notFirst]) hm.1 hm.2 ?_
  have rv : Vals [V.ref a, V.ref b] [Value.ref a, Value.ref b] := .cons rfl (.cons rfl .nil)
  refine wpAny_mono (run_fn (dvs := []) F (hr.mono hk) hb .nil hx I rv (by rw [List.append_nil]; exact q)) (fun v s1 hv => ?_) fun _ _ z => z
  obtain ⟨z, H1, I1, rz, qz⟩ := id hv
  cases z with
  | non => cases rz; exact hv
  | bl _ => cases rz; exact hv
  | int _ => obtain ⟨t, rfl⟩ := rz; exact hv
  | str _ => obtain ⟨t, rfl⟩ := rz; exact hv
  | byt _ => obtain ⟨t, rfl⟩ := rz; exact hv
  | flt _ => obtain ⟨t, rfl⟩ := rz; exact hv
  | ref _ => cases rz; exact hv
  | ty _ => cases rz; exact hv
end
end Z
/-! A def's, a method's, a maker's promise, from what the top leaves of it. -/
namespace Z
open PySem PySem.Spec PyProof.Rows L2
def inClass : Stmt → Nat → Stmt
  | .ClassDef _ _ _ body _ _ _ _ _ _ _, j => body.getD j (.Pass ⟨0, 0, 0, 0⟩)
  | s, _ => s
section
variable {P : Program} {w : World} {K : PySem.W.Frag} {mg : Str → Option Value} {base : Heap} {N : List Str} {qual : Str} {f C : Addr}
theorem ck_of {x : Str} {st : Stmt} {ps : List Str} {k : Nat} {sp : Sp} (M : Mk K C f) (F : ∃ fd, FnT K "__init__" qual st [] f fd) (hm : mg x = some (.ref C)) (S : FnScope N ps (defScope st)) (len : ∀ vs H Q E, sp vs H Q E → vs.length = ps.length)
    (hb : ∀ (kV doc pm : Value) (an : Option Addr) (cdv ct : Value) (us : List Value), us.length = ps.length → bindArgs (PySem.W.fnOf "__init__" qual (defArgs st) (defBody st) (defScope st) .none kV doc pm an cdv ct) ⟨us, []⟩ = pure (ps.zip us))
    (body : ∀ (cdv : Value) (A : Around) (outer : List Env) (s : Shared) (H : Hp) (vs : List V) (Q : VK) (E : XK), Room k (A.deeper (envOfC qual (defScope st) s.heap.objs.size f cdv)) → sp vs H Q E →
      ∃ t, PSs (cxOf (L2.CX P w) P w K mg base N qual (defScope st) f cdv A outer s H E) (defBody st) t ∧ t { nx := fun _ H' => Q .non H', rt := Q } (start N vs) H) : Ck P w K mg base (k + 1) x C sp := by
  obtain ⟨fd, F⟩ := F
  exact ⟨f, fd, ps, M, F.ok S len body, hm, F.bindsN hb⟩
/-- a def with defaults: n values are given, the defaults from the j-th on -/
theorem cld_of {x : Str} {st : Stmt} {ps : List Str} {k : Nat} {sp : Sp} {dvs : List V} (n j : Nat) (F : ∃ fd, FnT K x x st dvs f fd) (hm : mg x = some (.ref f)) (S : FnScope N ps (defScope st)) (len : ∀ vs H Q E, sp vs H Q E → vs.length = ps.length)
    (hd : dvs ≠ []) (hn : n + (dvs.length - j) = ps.length)
    (hb : ∀ (T : Addr) (kV doc pm : Value) (an : Option Addr) (cdv ct : Value) (us its : List Value), us.length = n → its.length = dvs.length →
      ∃ k, bindArgs (PySem.W.fnOf x x (defArgs st) (defBody st) (defScope st) (.ref T) kV doc pm an cdv ct) ⟨us, []⟩ = seqItems? (.ref T) >>= k ∧ k (some its.toArray) = pure (ps.zip (us ++ its.drop j)))
    (body : ∀ (cdv : Value) (A : Around) (outer : List Env) (s : Shared) (H : Hp) (vs : List V) (Q : VK) (E : XK), Room k (A.deeper (envOfC x (defScope st) s.heap.objs.size f cdv)) → sp vs H Q E →
      ∃ t, PSs (cxOf (L2.CX P w) P w K mg base N x (defScope st) f cdv A outer s H E) (defBody st) t ∧ t { nx := fun _ H' => Q .non H', rt := Q } (start N vs) H) : Cl P w K mg base (k + 1) x sp (dvs.drop j) := by
  obtain ⟨fd, F⟩ := F
  obtain ⟨ds, hv, b⟩ := F.binds1 n j hd hn hb
  exact ⟨f, fd, ps, ds, F.ok S len body, hm, F.kp, b, hv⟩
/-- a promise that nobody asks for -/
theorem cl_none {x : Str} {st : Stmt} {ps : List Str} {k : Nat} {sp : Sp} (F : ∃ fd, FnT K x x st [] f fd) (hm : mg x = some (.ref f)) (no : ∀ vs H Q E, ¬ sp vs H Q E)
    (hb : ∀ (kV doc pm : Value) (an : Option Addr) (cdv ct : Value) (us : List Value), us.length = ps.length → bindArgs (PySem.W.fnOf x x (defArgs st) (defBody st) (defScope st) .none kV doc pm an cdv ct) ⟨us, []⟩ = pure (ps.zip us)) : Cl P w K mg base k x sp [] := by
  obtain ⟨fd, F⟩ := F
  exact ⟨f, fd, ps, [], ⟨fun vs H Q E h => absurd h (no vs H Q E), fun A outer s H args us vs Q E _ _ _ _ h => absurd h (no vs H Q E)⟩, hm, F.kp, F.bindsN hb, .nil⟩
theorem cm_of {m : Str} {st : Stmt} {ps : List Str} {k : Nat} {sp : Sp} (c : Cls K C) (M : Meth K C m f) (F : ∃ fd, FnT K m qual st [] f fd) (S : FnScope N ps (defScope st)) (len : ∀ vs H Q E, sp vs H Q E → vs.length = ps.length)
    (hb : ∀ (kV doc pm : Value) (an : Option Addr) (cdv ct : Value) (us : List Value), us.length = ps.length → bindArgs (PySem.W.fnOf m qual (defArgs st) (defBody st) (defScope st) .none kV doc pm an cdv ct) ⟨us, []⟩ = pure (ps.zip us))
    (body : ∀ (cdv : Value) (A : Around) (outer : List Env) (s : Shared) (H : Hp) (vs : List V) (Q : VK) (E : XK), Room k (A.deeper (envOfC qual (defScope st) s.heap.objs.size f cdv)) → sp vs H Q E →
      ∃ t, PSs (cxOf (L2.CX P w) P w K mg base N qual (defScope st) f cdv A outer s H E) (defBody st) t ∧ t { nx := fun _ H' => Q .non H', rt := Q } (start N vs) H) : Cm P w K mg base (k + 1) C m sp := by
  obtain ⟨fd, F⟩ := F
  exact ⟨f, fd, ps, c, M, F.ok S len body, F.bindsN hb⟩
end
/-- what isinstance asks of an own class, by its Bools -/
def insB (K : PySem.W.Frag) (x : Str) : Bool :=
  (He.Fa.cls x).ok K && (He.eqO (PySem.W.findIn K (.ref (He.ga K x)) "__class__") (some (some (.builtin "object.__class__"))) && (He.eqO (PySem.W.specialIn K (.builtin "object.__class__") "__get__") (some (some (.builtin "getset_descriptor.__get__"))) &&
  (decide (PySem.W.takesIn K (.builtin "object.__class__") = some true) && (decide (PySem.W.mroIn K (He.ga K x) (.type "object") = some true) && decide (PySem.W.kitOne K (.ref (He.ga K x)) (.ref (He.ga K x)) = some true)))))
theorem insB_ok {K : PySem.W.Frag} {x : Str} (h : insB K x = true) : C8.InsC K (He.ga K x) := by
  unfold insB at h
  obtain ⟨h1, h⟩ := He.ba h
  obtain ⟨h2, h⟩ := He.ba h
  obtain ⟨h3, h⟩ := He.ba h
  obtain ⟨h4, h⟩ := He.ba h
  obtain ⟨h5, h6⟩ := He.ba h
  exact ⟨He.cls_ok h1, He.eqO_ok h2, He.eqO_ok h3, of_decide_eq_true h4, of_decide_eq_true h5, of_decide_eq_true h6⟩
/-- the walk's end, where what is let out leans on the world -/
theorem walk_ofW {ll : PySem.W.OpenLaw} {mm lv : Nat} {qv : Program} {ls : List Str} {XP : (Str → Option Value) → Heap → Prop} {YP : World → Heap → Prop} {dr : DefRec} {CW : World → CXT} {arg : Str}
    (hm : ll.most = some mm) (hz : mm ≤ sizeLine) (h0 : dr.params.defaults = []) (rm : Room lv callerA)
    (FF : ∀ (w : World) (mg : Str → Option Value) (fL : Addr) (hp : Heap), YP w hp → hp.Ns mainGlobals mg → mg dr.name = some (.ref fL) →
      ∃ (K : PySem.W.Frag) (fd : FuncData) (sp : Sp), K.In hp ∧ (∀ (s : Shared) (v : Value), BindsTo s fd ⟨[v], []⟩ [(arg, v)]) ∧
        (∀ (H : Hp) (a : Addr) (zs : List Int), zs.length ≤ mm → SqL K H a (zs.map V.int) → sp [.ref a] H (fun v _ => v = .bl true) fun _ _ _ => False) ∧
        ∀ bs : Heap, K.In bs → bs.Ns mainGlobals mg → FnOk ll.prog w K mg bs (CW w) lv fL fd [arg] sp)
    (no : ∀ (w : World) (H : Hp) (s : Shared) (e : Value) (s' : Shared), CW w [] H s (fun _ _ _ => False) e s' → False) :
    PySem.W.WalkO qv ls XP YP ll.row.toRowW dr [] (fun f vs => PySem.call f vs) := by
  refine Att.attach_call hm h0 fun w st su mg mb fL oo pm cd doc a vs zs GG YY ho hd hcd hmg hobj hints hlen hg => ?_
  obtain ⟨K, fd, sp, KX, hb, hsp, hF⟩ := FF w mg fL _ YY GG.T.g hmg
  refine law_call KX GG.T.g GG.T.b GG.T.builtins GG.T.nolimit hg hobj hints ?_ rm hF hb (fun H _ hS => hsp H a zs hlen hS) fun H e s' => no w H su e s'
  exact Nat.le_trans hlen hz
theorem noout {P : Program} {w : World} {H : Hp} {s s' : Shared} {e : Value} (z : L2.CX P w [] H s (fun _ _ _ => False) e s') : False := by
  obtain ⟨_, _, _, _, _, _, _, _, _, _, _, _, h⟩ := z
  exact h
end Z
/-! An own error made without arguments; raised; caught. -/
namespace Z
open PySem PySem.Spec PyProof.Rows L2
/-- what the top leaves of an own error without own __init__ -/
structure XcK (K : PySem.W.Frag) (mg : Str → Option Value) (x : Str) : Prop where
  m : PySem.W.excIn K (He.ga K x) He.veBase "ValueError.__new__" = true
  kp : PySem.W.keepIn K (.ref (He.ga K x)) = true
  sb : PySem.W.subIn K (.ref (He.ga K x)) (.type "BaseException") = some true
  ty : PySem.W.typeIn K (.ref (He.ga K x)) = some (.type "type")
  g : mg x = some (.ref (He.ga K x))
section
variable {X : Cx}
theorem pmk_own0 {x : Str} {p pos : Pos} (T : XcK X.K X.mg x) (hg : Gl X x) (hdb : (x == ("__debug__" : Str)) = false := by decide) :
    PMk X (.Call (.Name x p) [] [] pos) (fun _ H Q => Q (.ref (He.ga X.K x)) none H) := by
  intro pins s σ H Q I h
  refine wpAny_Call_Name_kw (ld_glob I hg T.g ?_ hdb)
  refine PySem.W.callWith_K0 I.kIn T.kp ?_
  show wpAny _ _ (call (.ref (He.ga X.K x)) []) _ _ _
  obtain ⟨bm, N, nm, qn, bs, hdct, sn, sub, ab, col, dd, k0, k1, k2, k3, k5, mN, hC, hN, hni, T2⟩ := exc_obj I.kIn T.m
  refine wpAny_call_exc_subT F.excBase_ValueError T2 hC hN hni (fun h' e hm => ?_) (Nat.zero_le _)
  exact mk_of I hm (raises_own T.sb T.ty) h (I.hok.gone hm.new)
end
/-- raise X() -/
def tRaise0 (E : XK) (C : Addr) : TS := fun _ σ H => E (.ref C) none H
/-- try: .. except X: .. -/
def tTry (K : PySem.W.Frag) (tb : WX → TS) (E : XK) (l : List (Value × (Addr → Value → Option Addr → TS))) : TS := fun D σ H => tb (wMany K (fun cls d _ H' => E cls d H') D l) D σ H
/-- an error of its own is caught by the i-th clause -/
theorem many_0 {K : PySem.W.Frag} {Wo : WX} {D : Ends} {c : Value} {ts : Addr → Value → Option Addr → TS} {r : List (Value × (Addr → Value → Option Addr → TS))} {d : Option Addr} {σ : L2.St} {H : Hp} (e : PySem.W.exmOne K c c = some true) (k : ∀ a, H a = none → ts a c d D σ H) : wMany K Wo D ((c, ts) :: r) c d σ H :=
  ⟨true, e, fun _ => k, fun z => nomatch z⟩
theorem many_1 {K : PySem.W.Frag} {Wo : WX} {D : Ends} {c c' : Value} {ts : Addr → Value → Option Addr → TS} {r : List (Value × (Addr → Value → Option Addr → TS))} {d : Option Addr} {σ : L2.St} {H : Hp} (e : PySem.W.exmOne K c c' = some false) (k : wMany K Wo D r c d σ H) : wMany K Wo D ((c', ts) :: r) c d σ H :=
  ⟨false, e, fun z => (nomatch z), fun _ => k⟩
end Z
/-! An own error's `__init__` that calls super().__init__("..") and keeps one field. -/
namespace Z
open PySem PySem.Spec PyProof.Rows L2
/-- what the top leaves of such a class -/
structure SupC (K : PySem.W.Frag) (C fI cc : Addr) (fld : Str) : Prop where
  x : OexC K C
  init : PySem.W.findIn K (.ref C) "__init__" = some (some (.ref fI))
  fn : PySem.W.typeIn K (.ref fI) = some (.type "function")
  cell : ∃ cl cld csl, K.lookup cc = some (⟨cl, cld, .cell (some (.ref C)), csl⟩ : Obj)
  mro : PySem.W.mroIn K C (.ref C) = some true
  any : PySem.W.nsIn K cStatics "thirdparty.any" = some none
  ve : PySem.W.subIn K (.ref C) (.type "ValueError") = some true
  sup : PySem.W.ks_superIn K C C "__init__" = some (some (.builtin "ValueError.__init__"))
  no : PySem.W.findIn K (.ref C) fld = some none
/-- its promise -/
def spSup (C : Addr) (fld : Str) : Sp := fun vs H Q _ => ∃ (a : Addr) (y : V), vs = [.ref a, y] ∧ H a = some (exo a C none) ∧ ∀ dx, H dx = none → dx ≠ a → Q .non (upd (upd H dx (exd dx [(fld, y)])) a (exo a C (some dx)))
/-- the call's tree: its places lie on one line -/
abbrev SupE (z : Str) (j : Nat) (p0 p1 p2 p3 p4 : Pos) : Prop := ∀ env : Env, ∃ pl : Sem Bool, eval (.Call (.Attribute (.Call (.Name "super" p0) [] [] p1) "__init__" p2) [.Constant (.str z) j p3] [] p4) env = (do
      let ov ← attributeBase (.Call (.Name "super" p0) [] [] p1) "__init__" env (eval (.Call (.Name "super" p0) [] [] p1) env)
      standAt p2.atName
      let (f, first) ← holding [ov] (getMethod ov "__init__" pl)
      callWith p4 f first (backTo p4 (starEach [.Constant (.str z) j p3] env)) [])
/-- super().__init__("..") -/
theorem sup_st {X : Cx} {pins : List (Addr × Obj)} {σ : L2.St} {H : Hp} {s : Shared} {body : List Stmt} {a C fI cc cda : Addr} {fld z file : Str} {fd : FuncData} {ar : Arg} {oc : Value} {od : Option Addr} {osl : Array (Option Value)} {p0 p1 p2 p3 p4 p5 : Pos} {j : Nat} {tf : Tok} (he : SupE z j p0 p1 p2 p3 p4) (T : SupC X.K C fI cc fld) (I : L2.Inv X pins σ H s) (ea : H a = some (exo a C none))
    (lk : X.K.lookup fI = some (⟨oc, od, .func fd, osl⟩ : Obj)) (hpa : (fd.params.posonlyargs ++ fd.params.args).head? = some ar) (har : ar.arg = "self")
    (hcode : ∃ ccl cdd vs ccs, X.K.lookup cda = some (⟨ccl, cdd, .fields vs, ccs⟩ : Obj) ∧ vs[2]? = some (.str file tf)) (hfile : ((X.prog.main.file : Str) == file) = true) (htop : (X.prog.main.scope.names.lookup ("super" : Str)).isSome = false) (hmg : X.mg ("super" : Str) = none)
    (hfu : X.env.func = some fI) (hco : X.env.code = .ref cda) (hce : X.env.cells.lookup ("__class__" : Str) = some cc) (hks : X.env.scope.names.lookup ("super" : Str) = some .globalImplicit) (hkc : X.env.scope.names.lookup ("__class__" : Str) = some .free)
    (hsl : X.env.scope.names.lookup ("self" : Str) = some .local) (hN : X.N[0]? = some ("self" : Str)) (hσ : σ[0]? = some (some (.ref a))) :
    _root_.PySem.wpAt (model X.prog X.w) X.A (.func body X.env) (exec (.Expr (.Call (.Attribute (.Call (.Name "super" p0) [] [] p1) "__init__" p2) [.Constant (.str z) j p3] [] p4) p5) X.env) (fun fl s' => fl = .next ∧ L2.Inv X pins σ H s') X.xe s := by
  obtain ⟨hp, g, d, t, os⟩ := s
  obtain ⟨nm, q, N, bs, bm, sn, sub, ab, col, dd, k0, k1, k2, k3, k5, hC, hbm⟩ := T.x.cls
  obtain ⟨cl, cld, csl, hcell⟩ := T.cell
  obtain ⟨ccl, cdd, vsC, ccs, hcode, hvs⟩ := hcode
  obtain ⟨t1, ho⟩ := exo_at I.hok ea
  have KX : X.K.In hp := I.kIn
  obtain ⟨mL, hnL, hlL⟩ := I.loc
  obtain ⟨u0, ru, lu⟩ := hlL 0 "self" (.ref a) hN hσ (.inl hsl)
  obtain rfl : u0 = Value.ref a := ru
  have hm0 : mL "self" = some (.ref a) := by
    rcases lu with ⟨_, h⟩ | ⟨hk, _⟩
    · exact h
    · rcases hk with hk | hk <;> · have := hk.symm.trans hsl; cases this
  obtain ⟨mb, hb1, hb2⟩ := I.mod.blt
  have hcl : PySem.W.clsIn X.K C = some { name := nm, bases := bs, mro := .ref C :: bm, ns := N, qualname := q, hasDict := true, slotNames := sn, subclasses := sub, abstract := ab, collection := col, hasDel := false } := by unfold PySem.W.clsIn; rw [hC] <;> rfl
  refine ks_wpAt_Expr_any ?_ I.quiet
  obtain ⟨pl, he⟩ := he X.env
  refine ks_wpAt_MethodCall ?_ he
  refine ks_wpAt_super_base (f := fI) (cc := cda) hks hkc rfl hfu (KX _ _ lk) rfl hpa hco (KX _ _ hcode) rfl hvs hfile htop ?_
  refine PySem.W.ks_loadName_global I.ok.kind hks (Calls.loadGlobal_builtin (by rw [I.ok.glob]; exact I.mod.glob.keeps I.bk) hmg (by rw [I.ok.blt]; exact hb1.keeps I.bk) ((hb2 "super" (by decide)).trans PyProof.Rows.Boot.«super») ⟨rfl, ?_⟩)
  refine wpAny_loadName_free I.ok.kind hkc hce ⟨_, KX _ _ hcell, rfl⟩ ?_
  rw [har]
  refine wpAny_loadName_local I.ok.kind hsl hnL hm0 ?_
  refine ks_wpAny_isType_cls (KX _ _ hC) rfl ⟨rfl, ?_⟩
  refine ks_wpAny_call_super (KX _ _ hC) rfl ho rfl (fun c e => nomatch e) (PySem.W.looks_mroIn KX T.mro) (fun h1 e1 k1' => ?_)
  have I1 : L2.Inv X pins σ H ⟨h1, g, d, t, os⟩ := I.kept (t' := t) k1'
  have KX1 : X.K.In h1 := I1.kIn
  have ho1 := k1' _ _ ho
  have J1 : PySem.W.InstAt h1 a _ C none := ⟨ho1, rfl, rfl, trivial⟩
  have hne : a ≠ C := fun z => by
    have e2 := KX1 _ _ hC
    rw [← z, ho1] at e2
    cases e2
  refine PySem.W.kxs_getMethod PySem.W.kxs_ValueError e1 (PySem.W.looks_opaque KX1 T.any) (fun A Q E s k q => wpAny_bind ((PySem.W.looks_clsIn KX1 hcl) A _ E s k (wpAny_pure q))) rfl KX1 (by have := T.sup; unfold PySem.W.ks_superIn at this; rw [hcl] at this; exact this) (J1.type.andThen (PySem.W.looks_subIn KX1 T.ve)) hne rfl ?_
  have k2' : ∀ b o, h1.get? b = some o → (h1.push (PySem.W.kxs_mw "ValueError.__init__" a)).get? b = some o := fun b o e => Heap.get?_push_of_some _ e
  have I2 : L2.Inv X pins σ H ⟨h1.push (PySem.W.kxs_mw "ValueError.__init__" a), g, d, t + 1, os⟩ := I1.kept (t' := t + 1) k2'
  have hu : (h1.push (PySem.W.kxs_mw "ValueError.__init__" a)).get? h1.objs.size = some (PySem.W.kxs_mw "ValueError.__init__" a) := Heap.get?_push_size _ rfl
  refine PySem.W.kxs_callWith (i := "ValueError.__init__") (x := a) rfl ?_
  refine Calls.evalArgs_plain (Calls.spliced_cons (Calls.Constant_str (k := j) (pos := p3) (Calls.spliced_nil ⟨hu, ?_⟩)))
  have ho2 : (h1.push (PySem.W.kxs_mw "ValueError.__init__" a)).get? a = some (PySem.W.excObj C t1 none .none) := k2' _ _ ho1
  refine wpAny_call (codeAny_of_tree ?_)
  show wpAny _ X.A.in1 (callAny (.ref h1.objs.size) ⟨[.str z (t + 1)], []⟩) _ _ _
  simp only [callAny]
  refine wpAny_bind (wpAny_load hu ?_)
  simp only [PySem.W.kxs_mw, show (Value.type "method-wrapper" == Value.type "method" || Value.type "method-wrapper" == Value.type "builtin_function_or_method" || Value.type "method-wrapper" == Value.type "method-wrapper") = true by decide, if_true]
  refine PySem.W.KFB.if_so (by decide) ?_
  refine wpAny_bind (PySem.W.check_bound_init F.excBase_ValueError.toExcCallFacts (k2' _ _ (KX1 _ _ hC)) ho2 rfl ?_)
  refine wpAny_bind (wpAny_pure (wpAny_pure ?_))
  refine ⟨plainId_quiet F.excBase_ValueError.init.plain _, codeAny_builtin F.excBase_ValueError.initEntry ?_⟩
  refine PySem.W.exc_init_tree (cls := .ref C) (t0 := t1) (dv := none) (c2 := .none) (c3 := .none) (b4 := .bool false) ho2 (by simp [sizeLine_eq]) fun h3 k3 hx _ => ?_
  have I3 := I2.write (t' := t + 1 + 1) (x := a) (e := a) (o := exo a C none) (by rw [ea]; exact True.intro) (.inl rfl) k3 ⟨_, hx⟩ (exo_ok hx)
  have eu : upd H a (exo a C none) = H := by
    funext b
    by_cases hb : b = a
    · rw [hb, upd_same, ea]
    · rw [upd_ne hb]
  rw [eu] at I3
  exact ⟨True.intro, I3⟩
section
variable {P : Program} {w : World} {K : PySem.W.Frag} {mg : Str → Option Value} {base : Heap} {CX : CXT} {C fI cc cda : Addr} {fld par qual z : Str} {k : Nat} {params : Arguments} {body : List Stmt} {scope : Scope} {kV doc pm oc ct : Value} {od an : Option Addr} {osl : Array (Option Value)} {p0 p1 p2 p3 p4 p5 q1 q2 q3 q4 : Pos} {j : Nat} {file : Str} {tf : Tok}
theorem sup_ok (he : SupE z j p0 p1 p2 p3 p4) (T : SupC K C fI cc fld) (lk : K.lookup fI = some (⟨oc, od, .func (PySem.W.fnX "__init__" qual params body scope [("__class__", cc)] .none kV doc pm an (.ref cda) ct), osl⟩ : Obj)) (hcd : PySem.W.codeIn K (.ref cda) qual = true)
    (hcode : ∃ ccl cdd vs ccs, K.lookup cda = some (⟨ccl, cdd, .fields vs, ccs⟩ : Obj) ∧ vs[2]? = some (.str file tf)) (hfile : ((P.main.file : Str) == file) = true) (htop : (P.main.scope.names.lookup ("super" : Str)).isSome = false) (hmg : mg ("super" : Str) = none)
    (S : NdefX.NScope ["self", par, "__class__"] ["self", par] ["__class__"] scope) (hsc : scope.names.lookup ("super" : Str) = some .globalImplicit) (hpar : (params.posonlyargs ++ params.args).head?.map (·.arg) = some "self")
    (hbody : body = [.Expr (.Call (.Attribute (.Call (.Name "super" p0) [] [] p1) "__init__" p2) [.Constant (.str z) j p3] [] p4) p5, .Assign [.Attribute (.Name "self" q1) fld q2] (.Name par q3) q4])
    (hd1 : (par == ("__debug__" : Str)) = false) (hd2 : (par == ("__classdict__" : Str)) = false) :
    FnOk P w K mg base CX (k + 1) fI (PySem.W.fnX "__init__" qual params body scope [("__class__", cc)] .none kV doc pm an (.ref cda) ct) ["self", par] (spSup C fld) := by
  refine ⟨fun vs H Q E ⟨a, y, e, _⟩ => by rw [e]; rfl, fun A outer s H args us vs Q E hr e0 hb r hsp => ?_⟩
  obtain ⟨a, y, rfl, ea, hq⟩ := hsp
  have KX : K.In s.heap := e0.mod.kin.keeps fun b o e => (e0.bs b o e).1
  have lim : s.heap.NoLimit := e0.mod.nolimit.keeps fun b o e => (e0.bs b o e).1
  obtain ⟨cl, cld, csl, hcell⟩ := T.cell
  obtain ⟨ccl, cdd, vsC, ccs, hcode, hvs⟩ := hcode
  refine ks_codeAny_call_defAt (fd := PySem.W.fnX "__init__" qual params body scope [("__class__", cc)] .none kV doc pm an (.ref cda) ct) (body := body) (binds := List.zip (["self", par] : List Str) us) hr.depth (KX _ _ lk) rfl lim (PySem.W.codeRec_of KX hcd) rfl hb S.nocell (fun y hy => S.par y.1 (List.of_mem_zip hy).1) (fun h₁ hns kp => ?_) S.co S.gen S.kind
  have CA : NdefX.CellsAt [("__class__", cc)] ["__class__"] [none] s.heap H := by
    have hc : ∀ y c, List.lookup y [(("__class__" : Str), cc)] = some c → y = "__class__" ∧ c = cc := fun y c e => by
      have := PySem.mem_of_lookup e
      simp only [List.mem_singleton, Prod.mk.injEq] at this
      exact this
    refine ⟨rfl, fun y c e => ?_, fun x y c e1 e2 => (hc x c e1).1.trans (hc y c e2).1.symm, fun i y e => ?_⟩
    · obtain ⟨_, rfl⟩ := hc y c e
      refine ⟨?_, some (.ref C), _, KX _ _ hcell, rfl⟩
      exact (e0.bs _ _ (e0.mod.kin _ _ hcell)).2
    · match i, e with
      | 0, e =>
        cases Option.some.inj e
        refine ⟨cc, rfl, fun v e2 => ?_⟩
        cases Option.some.inj e2
      | i + 1, e =>
        simp at e
  have I : L2.Inv (NdefX.ncx CX P w K mg base ["self", par, "__class__"] ⟨"__init__", qual, params, body, scope, [("__class__", cc)], cda⟩ fI A outer s H E) [] (NdefX.startF ["self", par, "__class__"] [.ref a, y] [none]) H { s with heap := h₁, toks := s.toks + (List.zip (["self", par] : List Str) us).length } :=
    NdefX.inv_startN (F := ⟨"__init__", qual, params, body, scope, [("__class__", cc)], cda⟩) S hr.hd e0 rfl r CA hns kp
  obtain ⟨ar, hpa, har⟩ : ∃ ar, (params.posonlyargs ++ params.args).head? = some ar ∧ ar.arg = "self" := by
    cases e : (params.posonlyargs ++ params.args).head? with
    | none => rw [e] at hpar; cases hpar
    | some ar =>
      rw [e] at hpar
      exact ⟨ar, rfl, Option.some.inj hpar⟩
  subst hbody
  have h1 := sup_st (X := NdefX.ncx CX P w K mg base ["self", par, "__class__"] ⟨"__init__", qual, params, [.Expr (.Call (.Attribute (.Call (.Name "super" p0) [] [] p1) "__init__" p2) [.Constant (.str z) j p3] [] p4) p5, .Assign [.Attribute (.Name "self" q1) fld q2] (.Name par q3) q4], scope, [("__class__", cc)], cda⟩ fI A outer s H E) (body := [.Expr (.Call (.Attribute (.Call (.Name "super" p0) [] [] p1) "__init__" p2) [.Constant (.str z) j p3] [] p4) p5, .Assign [.Attribute (.Name "self" q1) fld q2] (.Name par q3) q4]) (p5 := p5) he T I ea lk hpa har ⟨ccl, cdd, vsC, ccs, hcode, hvs⟩ hfile htop hmg rfl rfl rfl hsc (S.frk _ (by simp)) (S.par _ (by simp)) rfl rfl
  have fin : ∀ {σ' : L2.St} {H' : Hp} {v : V} {u : Value} {s' : Shared}, L2.Inv (NdefX.ncx CX P w K mg base ["self", par, "__class__"] ⟨"__init__", qual, params, [.Expr (.Call (.Attribute (.Call (.Name "super" p0) [] [] p1) "__init__" p2) [.Constant (.str z) j p3] [] p4) p5, .Assign [.Attribute (.Name "self" q1) fld q2] (.Name par q3) q4], scope, [("__class__", cc)], cda⟩ fI A outer s H E) [] σ' H' s' → L2.RelV v u → Q v H' → CE outer P w H s Q u s' :=
    fun {σ' H' v u s'} J rv q => ⟨v, H', J.os, J.bare, J.base, J.hok, rv, q⟩
  refine ks_wpAt_execs_cons (ks_wpAt_mono h1 (fun fl s' hs => ?_) fun e s' z => z)
  obtain ⟨rfl, J⟩ := hs
  refine wpAt_of_wpAny (wpAny_mono ((pss_one (ps_ost (f := fld) (p' := q2) (pos := q4) (pe_var (i := 0) (x := "self") (pos := q1) rfl (.inl (S.par _ (by simp)))) (pe_var (i := 1) (x := par) (pos := q3) rfl (.inl (S.par _ (by simp))) hd1 hd2))).run [] s' _ H { nx := fun _ H' => Q .non H', rt := Q } J ?_) (fun fl s2 hs => ?_) fun e s2 z => z)
  · exact ⟨y, rfl, .ref a, rfl, a, C, rfl, T.x, T.no, .inl ⟨ea, hq⟩⟩
  · cases fl with
    | ret u =>
      obtain ⟨v, σ', H', J, rv, q⟩ := hs
      exact fin J rv q
    | next =>
      obtain ⟨σ', H', J, q⟩ := hs
      exact fin (v := V.non) (u := Value.none) J rfl q
    | brk =>
      obtain ⟨_, _, _, q⟩ := hs
      exact False.elim q
    | cont =>
      obtain ⟨_, _, _, q⟩ := hs
      exact False.elim q
end
end Z
/-! Such an error made and raised. -/
namespace Z
open PySem PySem.Spec PyProof.Rows L2
/-- the promise of the class x: X(y) keeps y in the field fld -/
structure XsK (P : Program) (w : World) (K : PySem.W.Frag) (mg : Str → Option Value) (base : Heap) (k : Nat) (x fld : Str) : Prop where
  ex : ∃ (fI cc : Addr) (fd : FuncData) (ps : List Str), SupC K (He.ga K x) fI cc fld ∧ FnOk P w K mg base (L2.CX P w) k fI fd ps (spSup (He.ga K x) fld) ∧ Binds K fd ps [] ∧ mg x = some (.ref (He.ga K x))
/-- raise X(..) -/
def tRaise1 (E : XK) (C : Addr) (fld : Str) (ta : TA) : TS := fun _ σ H => tMkO C (spSup C fld) [] ta σ H E
/-- its end -/
theorem fld_end {C : Addr} {fld : Str} {y : V} {H1 : Hp} {Q : XK} (hq : ∀ d, H1 d = none → Q (.ref C) (some d) (upd H1 d (.xd [(fld, y)]))) : [y].length ≤ 1000 ∧ ∀ a, H1 a = none → spSup C fld (.ref a :: ([y] ++ [])) (upd H1 a (exo a C none))
    (fun v H2 => v = .non ∧ ∃ (d : Addr) (fs : List (Str × V)), H2 a = some (exo a C (some d)) ∧ H2 d = some (exd d fs) ∧ H1 d = none ∧ Q (.ref C) (some d) (upd (del H2 a) d (.xd fs))) (fun _ _ _ => False) := by
  refine ⟨by simp, fun a na => ?_⟩
  refine ⟨a, y, rfl, upd_same, fun dx nd ne => ⟨rfl, dx, [(fld, y)], upd_same, ?_, ?_, ?_⟩⟩
  · rw [upd_ne ne, upd_same]
  · rw [upd_ne ne] at nd
    exact nd
  · have n1 : H1 dx = none := by rw [upd_ne ne] at nd; exact nd
    have e : upd (del (upd (upd (upd H1 a (exo a C none)) dx (exd dx [(fld, y)])) a (exo a C (some dx))) a) dx (.xd [(fld, y)]) = upd H1 dx (.xd [(fld, y)]) := by
      funext b
      by_cases hb : b = dx
      · rw [hb, upd_same, upd_same]
      · rw [upd_ne hb, upd_ne hb]
        by_cases hba : b = a
        · rw [hba, del_same, na]
        · rw [del_ne hba, upd_ne hba, upd_ne hb, upd_ne hba]
    rw [e]
    exact hq dx n1
section
variable {X : Cx} {x fld : Str} {k j : Nat} {e : Expr} {es : List Expr} {ta : TA} {p pos : Pos}
theorem pmk_fld (c : XsK X.prog X.w X.K X.mg X.base k x fld) (hr : Room j X.A) (hk : k + 1 ≤ j) (hg : Gl X x) (hx : Passes (L2.CX X.prog X.w) X (fun _ _ _ => False)) (ha : PA X (e :: es) ta)
    (hdb : (x == ("__debug__" : Str)) = false := by decide) (he : starEach (e :: es) X.env = (false, eval e X.env) :: starEach es X.env := by rfl) (hpl : (backTo pos (starEach es X.env)).any (·.1) = false := by rfl) :
    PMk X (.Call (.Name x p) (e :: es) [] pos) (tMkO (He.ga X.K x) (spSup (He.ga X.K x) fld) [] ta) := by
  obtain ⟨fI, cc, fd, ps, T, F1, hb, hm⟩ := c.ex
  exact pmk_oex T.x T.init T.fn F1 (hr.mono hk) hb .nil hx hg hm ha hdb he hpl
end
section
variable {P : Program} {w : World} {K : PySem.W.Frag} {mg : Str → Option Value} {base : Heap} {N : List Str} {qual : Str} {sc : Scope} {f : Addr} {cdv : Value} {A : Around} {outer : List Env} {s : Shared} {H : Hp} {E : XK}
theorem passF : Passes (L2.CX P w) (cxOf (L2.CX P w) P w K mg base N qual sc f cdv A outer s H E) (fun _ _ _ => False) := L2.passes_call takesE (fun _ _ _ _ h => h.elim)
end
end Z
/-! What the top leaves of such classes: the hook with the statics, the defs with the class's cell. -/
namespace Z
open PySem PySem.Spec PyProof.Rows L2
/-- the class's name, the field, the def's qualified name, the def -/
structure SupD where
  cls : Str
  fld : Str
  qual : Str
  st : Stmt
abbrev FnS : Type := Option (Str × Str × Arguments × FuncBody × Scope × Addr × List Str × Value × Addr)
def fnS (K : PySem.W.Frag) (x : Str) : FnS := match K.lookup (He.ma K (He.ga K x) "__init__") with
  | some ⟨_, _, .func fd, _⟩ => some (fd.name, fd.qualname, fd.params, fd.body, fd.scope, fd.globals, fd.closure.map (·.1), fd.defaults, fd.builtins)
  | _ => none
def SupD.val (d : SupD) : FnS := some ("__init__", d.qual, defArgs d.st, .stmts (defBody d.st), defScope d.st, mainGlobals, ["__class__"], .none, builtinsNs)
def oexB (K : PySem.W.Frag) (C : Addr) : Bool := match K.lookup C with
  | some ⟨.type "type", _, .cls cd, sl⟩ => (match cd.mro, sl.toList with
    | .ref C' :: bm, [_, _, _, _, some (.builtin n), _] => decide (C' = C) && (decide (n = "ValueError.__new__") && (!cd.hasDel && (cd.hasDict && PySem.HandSPX.refsVE bm)))
    | _, _ => false)
  | _ => false
def clsB (K : PySem.W.Frag) (x fld : Str) : Bool :=
  oexB K (He.ga K x) && (decide (PySem.W.findIn K (.ref (He.ga K x)) "__setattr__" = some (some (.builtin "object.__setattr__"))) && (decide (PySem.W.subIn K (.ref (He.ga K x)) (.type "BaseException") = some true) && (decide (PySem.W.typeIn K (.ref (He.ga K x)) = some (.type "type")) &&
  (PySem.W.keepIn K (.ref (He.ga K x)) && (He.eqO (PySem.W.findIn K (.ref (He.ga K x)) "__init__") (some (some (.ref (He.ma K (He.ga K x) "__init__")))) && (decide (PySem.W.typeIn K (.ref (He.ma K (He.ga K x) "__init__")) = some (.type "function")) && (decide (PySem.W.mroIn K (He.ga K x) (.ref (He.ga K x)) = some true) &&
  (He.eqO (PySem.W.nsIn K cStatics "thirdparty.any") (some none) && (decide (PySem.W.subIn K (.ref (He.ga K x)) (.type "ValueError") = some true) && (He.eqO (PySem.W.ks_superIn K (He.ga K x) (He.ga K x) "__init__") (some (some (.builtin "ValueError.__init__"))) && (He.eqO (PySem.W.findIn K (.ref (He.ga K x)) fld) (some none) && xfB K (He.ga K x))))))))))))
def cellB (K : PySem.W.Frag) (C : Addr) : List (Str × Addr) → Bool
  | [(_, cc)] => (match K.lookup cc with
    | some ⟨_, _, .cell (some (.ref D)), _⟩ => decide (D = C)
    | _ => false)
  | _ => false
theorem cellB_ok {K : PySem.W.Frag} {C : Addr} {l : List (Str × Addr)} (h : cellB K C l = true) (hl : l.map (·.1) = [("__class__" : Str)]) : ∃ cc cl cld csl, l = [(("__class__" : Str), cc)] ∧ K.lookup cc = some (⟨cl, cld, .cell (some (.ref C)), csl⟩ : Obj) := by
  unfold cellB at h
  split at h
  · rename_i x cc
    have e : x = "__class__" := by
      have z : [x] = [("__class__" : Str)] := hl
      exact List.head_eq_of_cons_eq z
    subst e
    split at h
    · rename_i c d D sl ho
      have e := of_decide_eq_true h
      subst e
      exact ⟨cc, _, _, _, rfl, ho⟩
    · cases h
  · cases h
def codeB (K : PySem.W.Frag) (file : Str) : Value → Bool
  | .ref c => (match K.lookup c with
    | some ⟨_, _, .fields vs, _⟩ => (match (vs[2]? : Option Value) with
      | some (.str f _) => decide (f = file)
      | _ => false)
    | _ => false)
  | _ => false
theorem codeB_ok {K : PySem.W.Frag} {file : Str} {v : Value} (h : codeB K file v = true) : ∃ cda tf ccl cdd vs ccs, v = .ref cda ∧ K.lookup cda = some (⟨ccl, cdd, .fields vs, ccs⟩ : Obj) ∧ vs[2]? = some (.str file tf) := by
  unfold codeB at h
  split at h
  · rename_i c
    split at h
    · rename_i a b vs sl ho
      split at h
      · rename_i f t e
        have e1 := of_decide_eq_true h
        subst e1
        exact ⟨c, t, _, _, vs, _, rfl, ho, e⟩
      · cases h
    · cases h
  · cases h
/-- its def's cell, its code object -/
def defB (K : PySem.W.Frag) (x qual file : Str) : Bool := match K.lookup (He.ma K (He.ga K x) "__init__") with
  | some ⟨_, _, .func fd, _⟩ => cellB K (He.ga K x) fd.closure && (PySem.W.codeIn K fd.code qual && codeB K file fd.code)
  | _ => false
def supB (K : PySem.W.Frag) (file : Str) (d : SupD) : Bool := clsB K d.cls d.fld && defB K d.cls d.qual file
theorem oexB_ok {K : PySem.W.Frag} {C : Addr} (h : oexB K C = true) : ∃ nm q N bs bm sn sub ab col dd k0 k1 k2 k3 k5, K.lookup C = some (excClassObj nm q C N bs bm true sn sub ab col dd k0 k1 k2 k3 k5 "ValueError.__new__") ∧ PySem.HandSPX.refsVE bm = true := by
  unfold oexB at h
  split at h
  · rename_i dd cd sl ho
    split at h
    · rename_i C' bm k0 k1 k2 k3 n k5 hm hs
      obtain ⟨h1, h⟩ := He.ba h
      obtain ⟨h2, h⟩ := He.ba h
      obtain ⟨h3, h⟩ := He.ba h
      obtain ⟨h4, h5⟩ := He.ba h
      have e1 := of_decide_eq_true h1
      have e2 := of_decide_eq_true h2
      subst e1 e2
      obtain ⟨sl⟩ := sl
      have hs : sl = [k0, k1, k2, k3, some (.builtin "ValueError.__new__"), k5] := hs
      subst hs
      obtain ⟨nm, bs, mro, ns, qn, hd, sn, sb, ab, col, del⟩ := cd
      dsimp only at hm h3 h4
      subst hm h4
      have h3 : del = false := by
        cases del with
        | false => rfl
        | true => cases h3
      subst h3
      exact ⟨_, _, _, _, _, _, _, _, _, _, _, _, _, _, _, ho, h5⟩
    · cases h
  · cases h
/-- the facts of one such class -/
structure SupF (K : PySem.W.Frag) (d : SupD) (file : Str) : Prop where
  ex : ∃ cc cda oc od osl kV doc pm an ct tf, SupC K (He.ga K d.cls) (He.ma K (He.ga K d.cls) "__init__") cc d.fld ∧
    K.lookup (He.ma K (He.ga K d.cls) "__init__") = some (⟨oc, od, .func (PySem.W.fnX "__init__" d.qual (defArgs d.st) (defBody d.st) (defScope d.st) [("__class__", cc)] .none kV doc pm an (.ref cda) ct), osl⟩ : Obj) ∧ PySem.W.codeIn K (.ref cda) d.qual = true ∧
    ∃ ccl cdd vs ccs, K.lookup cda = some (⟨ccl, cdd, .fields vs, ccs⟩ : Obj) ∧ vs[2]? = some (.str file tf)
  xf : XfC K (He.ga K d.cls)
  no : PySem.W.findIn K (.ref (He.ga K d.cls)) d.fld = some none
theorem supF_of {K : PySem.W.Frag} {d : SupD} {file : Str} (e : fnS K d.cls = d.val) (h : supB K file d = true) : SupF K d file := by
  obtain ⟨ha, hb⟩ := He.ba h
  obtain ⟨a1, ha⟩ := He.ba ha
  obtain ⟨a2, ha⟩ := He.ba ha
  obtain ⟨a3, ha⟩ := He.ba ha
  obtain ⟨a4, ha⟩ := He.ba ha
  obtain ⟨a5, ha⟩ := He.ba ha
  obtain ⟨a6, ha⟩ := He.ba ha
  obtain ⟨a7, ha⟩ := He.ba ha
  obtain ⟨a8, ha⟩ := He.ba ha
  obtain ⟨a9, ha⟩ := He.ba ha
  obtain ⟨a10, ha⟩ := He.ba ha
  obtain ⟨a11, ha⟩ := He.ba ha
  obtain ⟨a12, a13⟩ := He.ba ha
  refine ⟨?_, xfB_ok a13, He.eqO_ok a12⟩
  unfold fnS at e
  unfold defB at hb
  cases q : K.lookup (He.ma K (He.ga K d.cls) "__init__") with
  | none => rw [q] at hb; cases hb
  | some o =>
    obtain ⟨oc, od, dt, osl⟩ := o
    rw [q] at hb e
    cases dt with
    | func fd =>
      obtain ⟨n1, n2, n3, n4, n5, n6, n7, n8, n9, n10, n11, n12, n13, n14, n15⟩ := fd
      have e2 : (some (n1, n2, n3, n4, n5, n6, n7.map (·.1), n8, n15) : FnS) = (some ("__init__", d.qual, defArgs d.st, .stmts (defBody d.st), defScope d.st, mainGlobals, ["__class__"], .none, builtinsNs) : FnS) := e
      simp only [Option.some.injEq, Prod.mk.injEq] at e2
      obtain ⟨h1, h2, h3, h4, h5, h6, h7, h8, h9⟩ := e2
      obtain ⟨b1, hb⟩ := He.ba hb
      obtain ⟨b2, b3⟩ := He.ba hb
      obtain ⟨cc, cl, cld, csl, ec, q2⟩ := cellB_ok b1 h7
      obtain ⟨cda, tf, ccl, cdd, vs, ccs, ed, q3, q4⟩ := codeB_ok b3
      have ec : n7 = [(("__class__" : Str), cc)] := ec
      have ed : n13 = .ref cda := ed
      subst h1 h2 h3 h4 h5 h6 h8 h9 ec ed
      exact ⟨cc, cda, oc, od, osl, _, _, _, _, _, tf, ⟨⟨oexB_ok a1, of_decide_eq_true a2, of_decide_eq_true a3, of_decide_eq_true a4, a5⟩, He.eqO_ok a6, of_decide_eq_true a7, ⟨_, _, _, q2⟩, of_decide_eq_true a8, He.eqO_ok a9, of_decide_eq_true a10, He.eqO_ok a11, He.eqO_ok a12⟩, rfl, b2, _, _, vs, _, q3, q4⟩
    | _ => cases hb
/-! ### the hook -/
abbrev AlC : Type := (He.AlT × List FnS) × Bool
def frC (g : Addr → Option Obj) (n : Nat) : PySem.W.Frag := He.frT g (He.asD g n ++ [cStatics])
def obsC (n : Nat) (fa : List He.Fa) (fn : List He.DefD) (sd : List SupD) (ex : PySem.W.Frag → Bool) (g : Addr → Option Obj) : AlC := ((He.obsT fa fn [] (frC g n), sd.map fun d => fnS (frC g n) d.cls), ex (frC g n))
def valC (fn : List He.DefD) (sd : List SupD) (w : World) : AlC := ((He.valT fn [] w, sd.map SupD.val), true)
structure SaysC (fa : List He.Fa) (fn : List He.DefD) (sd : List SupD) (ex : PySem.W.Frag → Bool) (w : World) (K : PySem.W.Frag) : Prop where
  t : He.SaysT fa fn [] w K
  s : sd.map (fun d => fnS K d.cls) = sd.map SupD.val
  more : ex K = true
def hookC (n : Nat) (fa : List He.Fa) (fn : List He.DefD) (sd : List SupD) (ex : PySem.W.Frag → Bool) : PySem.W.Hook where
  α := AlC
  obs := fun s => obsC n fa fn sd ex s.heap.get?
  val := fun w => valC fn sd w
  says := fun w h => ∃ K : PySem.W.Frag, K.In h ∧ SaysC fa fn sd ex w K
  of := fun _ _ e => ⟨_, He.frT_in, congrArg (fun z : AlC => z.1.1) e, congrArg (fun z : AlC => z.1.2) e, congrArg (fun z : AlC => z.2) e⟩
  keeps := fun _ _ _ ⟨K, hK, c⟩ k => ⟨K, PySem.W.Frag.In.keeps hK k, c⟩
theorem obsC_eq {n : Nat} {fa : List He.Fa} {fn : List He.DefD} {sd : List SupD} {ex : PySem.W.Frag → Bool} {g : Addr → Option Obj} {s : Shared} (h : ∀ a, g a = s.heap.get? a) : obsC n fa fn sd ex g = (hookC n fa fn sd ex).obs s := by
  have e : g = s.heap.get? := funext h
  rw [e] <;> rfl
theorem SaysC.sup {fa : List He.Fa} {fn : List He.DefD} {sd : List SupD} {ex : PySem.W.Frag → Bool} {w : World} {K : PySem.W.Frag} (c : SaysC fa fn sd ex w K) (i : Nat) {d : SupD} (h : sd[i]? = some d := by rfl) : fnS K d.cls = d.val := by
  have e2 : (sd.map fun d => fnS K d.cls)[i]? = (sd.map SupD.val)[i]? := by rw [c.s]
  rw [List.getElem?_map, List.getElem?_map, h] at e2
  exact Option.some.inj e2
end Z
namespace Z
open PySem PySem.Spec PyProof.Rows L2
section
variable {P : Program} {w : World} {K : PySem.W.Frag} {mg : Str → Option Value} {base : Heap} {d : SupD} {par z file : Str} {j : Nat} {p0 p1 p2 p3 p4 p5 q1 q2 q3 q4 : Pos}
theorem xsK_of (F : SupF K d file) (hm : mg d.cls = some (.ref (He.ga K d.cls))) (hfile : ((P.main.file : Str) == file) = true) (htop : (P.main.scope.names.lookup ("super" : Str)).isSome = false) (hmg : mg ("super" : Str) = none)
    (he : SupE z j p0 p1 p2 p3 p4) (S : NdefX.NScope ["self", par, "__class__"] ["self", par] ["__class__"] (defScope d.st)) (hsc : (defScope d.st).names.lookup ("super" : Str) = some .globalImplicit) (hpar : ((defArgs d.st).posonlyargs ++ (defArgs d.st).args).head?.map (·.arg) = some "self")
    (hbody : defBody d.st = [.Expr (.Call (.Attribute (.Call (.Name "super" p0) [] [] p1) "__init__" p2) [.Constant (.str z) j p3] [] p4) p5, .Assign [.Attribute (.Name "self" q1) d.fld q2] (.Name par q3) q4])
    (hb : ∀ (cl : List (Str × Addr)) (kV doc pm : Value) (an : Option Addr) (cdv ct : Value) (a b : Value), bindArgs (PySem.W.fnX "__init__" d.qual (defArgs d.st) (defBody d.st) (defScope d.st) cl .none kV doc pm an cdv ct) ⟨[a, b], []⟩ = pure (List.zip (["self", par] : List Str) [a, b]))
    (hd1 : (par == ("__debug__" : Str)) = false) (hd2 : (par == ("__classdict__" : Str)) = false) : XsK P w K mg base 1 d.cls d.fld := by
  obtain ⟨cc, cda, oc, od, osl, kV, doc, pm, an, ct, tf, T, lk, hcd, hcode⟩ := F.ex
  exact ⟨_, cc, _, ["self", par], T, sup_ok he T lk hcd hcode hfile htop hmg S hsc hpar hbody hd1 hd2, Binds.all (fun us hl => match us, hl with | [a, b], _ => hb _ _ _ _ _ _ _ a b), hm⟩
end
end Z
namespace Z
open PySem PySem.Spec PyProof.Rows L2
local macro_rules | `(tactic| walk_at "look") => `(tactic| first | assumption | exact upd_same | exact SqL.of (by assumption) | exact SqT.of (by assumption) | exact SqL.of upd_same | exact SqT.of upd_same)
local macro_rules | `(tactic| walk_at "at") => `(tactic| first | exact at0 | exact at1 | exact at2 | exact at3 | exact ix0 | exact ix1 | assumption | exact atI_nat (by rfl))
local macro_rules | `(tactic| walk_at "sd") => `(tactic| ((try dsimp only); first | assumption | omega | (unfold CMul; omega) | (unfold CDiv; omega) | (unfold CPow; decide) | decide))
local macro_rules | `(tactic| walk_at "st") => `(tactic| first
  | (refine ⟨_, rfl, ?_⟩)
  | (refine ⟨_, _, rfl, rfl, ?_⟩)
  | (refine ⟨rfl, ?_⟩)
  | (refine .inl ⟨_, rfl, ?_⟩)
  | (refine ⟨_, _, _, _, rfl, rfl, (by walk_at "look"), (by walk_at "at"), ?_⟩)
  | (refine ⟨_, _, rfl, .inl (by walk_at "look"), ?_⟩)
  | (refine And.intro (by walk_at "sd") ?_)
  | fail "no step")
local macro_rules | `(tactic| walk_at "go") => `(tactic| repeat' (walk_at "st"))
local macro_rules | `(tactic| walk_at "ans") => `(tactic| (intro Q q; (repeat' (walk_at "st")); exact q))

/-! ### == of rhymes -/
theorem eqvAll_vD : ∀ vs us : List Ve, PyData.eqvAll (vs.map vD) (us.map vD) = decide (vs = us)
  | [], [] => rfl
  | [], _ :: _ => rfl
  | _ :: _, [] => rfl
  | v :: vs, u :: us => by
    have ih := eqvAll_vD vs us
    show (PyData.eqv (vD v) (vD u) && PyData.eqvAll (vs.map vD) (us.map vD)) = _
    rw [ih]
    have e : PyData.eqv (vD v) (vD u) = decide (v = u) := by
      show ((wayS v.1 == wayS u.1) && ((v.2 == u.2) && true)) = _
      obtain ⟨a, b⟩ := v
      obtain ⟨c, d⟩ := u
      rw [Bool.and_true]
      have ib : ∀ x y : Int, (x == y) = decide (x = y) := fun x y => by
        by_cases h : x = y
        · rw [h, decide_eq_true rfl]
          exact beq_self_eq_true y
        · rw [decide_eq_false h]
          exact beq_false_of_ne h
      have wn : (("on" : Str) == "back") = false := by decide +kernel
      have nw : (("back" : Str) == "on") = false := by decide +kernel
      have ww : ∀ x : Str, (x == x) = true := fun x => beq_self_eq_true x
      rw [ib]
      cases a <;> cases c
      · show ((("back" : Str) == "back") && _) = _
        rw [ww]
        simp
      · show ((("back" : Str) == "on") && _) = _
        rw [nw]
        simp
      · show ((("on" : Str) == "back") && _) = _
        rw [wn]
        simp
      · show ((("on" : Str) == "on") && _) = _
        rw [ww]
        simp
    rw [e]
    by_cases h1 : v = u <;> by_cases h2 : vs = us <;> simp [h1, h2]
theorem eqv_vsD (vs us : List Ve) : PyData.eqv (vsD vs) (vsD us) = decide (vs = us) := eqvAll_vD vs us
theorem lay_vD : ∀ vs : List Ve, PyData.canLayAll0 (vs.map vD) = true ∧ PyData.depthAll (vs.map vD) ≤ 1
  | [] => ⟨rfl, Nat.zero_le _⟩
  | v :: vs => by
    obtain ⟨h1, h2⟩ := lay_vD vs
    constructor
    · show (PyData.canLay0 (vD v) && PyData.canLayAll0 (vs.map vD)) = true
      rw [h1, Bool.and_true]
      obtain ⟨a, b⟩ := v
      cases a
      · exact (by decide +kernel : PyData.canLayAll0 [.str "back", .int 0] = true)
      · exact (by decide +kernel : PyData.canLayAll0 [.str "on", .int 0] = true)
    · show max (PyData.depth (vD v)) (PyData.depthAll (vs.map vD)) ≤ 1
      have : PyData.depth (vD v) = 1 := rfl
      omega
theorem shaped_vsD (vs : List Ve) : SeqAt.shaped (vsD vs) = true := by
  obtain ⟨h1, h2⟩ := lay_vD vs
  show (PyData.canLayAll0 (vs.map vD) && decide (PyData.depthAll (vs.map vD) + 1 ≤ 64)) = true
  rw [h1, decide_eq_true (by omega)]
  rfl
@[irreducible] def sp_Rhymeu_equ (K : PySem.W.Frag) : Sp := fun ws H Q _ => ∃ (a b : Addr) (vs us : List Ve) (l m : Int), ws = [.ref a, .ref b] ∧ RhAt K H a vs l ∧ RhAt K H b us m ∧ Q (.bl (decide (vs = us) && decide (l = m))) H
def t_Rhymeu_equ_0 (K : PySem.W.Frag) (E : XK) : TS := (tRet (tAndV (tCB (rIsi K) (tCons (tVar 1) (tCons (tC (.ref (He.ga K "Rhyme"))) tNil))) (tAndV (tOp (rEqD K) (tFld K (tVar 0) "own_verses") (tFld K (tVar 1) "own_verses")) (tOp rEq (tFld K (tVar 0) "own_left") (tFld K (tVar 1) "own_left")))))

theorem pure_Rhymeu_equ {K : PySem.W.Frag} (T : RhC K) (TI : C8.InsC K (He.ga K "Rhyme")) (ws : List V) (H : Hp) (Q : VK) (E : XK) (h : sp_Rhymeu_equ K ws H Q E) :
    t_Rhymeu_equ_0 K E { nx := fun _ H' => Q .non H', rt := Q } (start ["self", "other"] ws) H := by
  unfold sp_Rhymeu_equ at h
  obtain ⟨a, b, vs, us, l, m, rfl, ⟨dx, tv, tr, h1, h2, h3⟩, ⟨dy, uv, ur, g1, g2, g3⟩, k⟩ := h
  show t_Rhymeu_equ_0 K E _ [some (.ref a), some (.ref b)] H
  refine andV_go true (decide (vs = us) && decide (l = m)) (fun Q q => ?_) (fun _ Q q => andV_go (decide (vs = us)) (decide (l = m)) (fun Q q => ?_) (fun _ Q q => ?_) q) k
  · exact ⟨_, rfl, .ref b, _, _, _, true, rfl, .own _, .base (TyOf.ins g1 TI.cl TI.ha TI.hn TI.htk TI.hm), TI.me, q⟩
  · refine ⟨_, rfl, a, _, dx, _, _, rfl, h1, T.cl, T.nv, rhF_v _ _ _, _, rfl, b, _, dy, _, _, rfl, g1, T.cl, T.nv, rhF_v _ _ _, _, _, h2, g2, shaped_vsD vs, shaped_vsD us, ?_⟩
    rw [eqv_vsD]
    exact q
  · refine ⟨_, rfl, a, _, dx, _, _, rfl, h1, T.cl, T.nl, rhF_l _ _ _, _, rfl, b, _, dy, _, _, rfl, g1, T.cl, T.nl, rhF_l _ _ _, rfl, ?_⟩
    rw [d_int]
    exact q
/-! ### the law's source -/
@[irreducible] def sp_law_random (K : PySem.W.Frag) : Sp := fun ws H Q _ => ∃ (a : Addr) (ns : List Int) (z : Int), ws = [.ref a, .int z] ∧ SqL K H a (ns.map V.int) ∧ ns.length ≤ 63 ∧ 0 ≤ z ∧ z < 2147483647 ∧
  ∀ (d : Addr) (H' : Hp), H d = none → Ex H H' → DSt H' d → Q (.ref d) H'
def t_law_random_1a_0 (K : PySem.W.Frag) (E : XK) : TS := (tAsg (tOp oMod (tCB cInt (tCons (tOp oAdd (tOp oMul (tVar 2) (tC (.int 31))) (tCB cAbs (tCons (tVar 3) tNil))) tNil)) (tC (.int 2147483647))) (gName 2))

def t_law_random_2 (K : PySem.W.Frag) (E : XK) : TS := (tRet (tOp rCat (tLst (tCons (tVar 2) (tCons (tC (.int 0)) tNil))) (tLc (iList K (tVar 0)) (gName 3) (tTest (tOp oGe (tVar 3) (tOp oPow (tC (.int 10)) (tC (.int 18))))) (tVar 3) [3])))

@[irreducible] def t_law_random_1 (K : PySem.W.Frag) (E : XK) : TS := tSeq (tFor (iList K (tVar 0)) (gName 3)
    (t_law_random_1a_0 K E)) (t_law_random_2 K E)

def t_law_random_0 (K : PySem.W.Frag) (E : XK) : TS := tSeq (tAsg (tVar 1) (gName 2)) (t_law_random_1 K E)

theorem random_2 {K : PySem.W.Frag} {E : XK} {D : Ends} {a : Addr} {ns : List Int} {z s : Int} {u : Option V} {H : Hp} (hS : SqL K H a (ns.map V.int)) (hn : ns.length ≤ 63) (h0 : 0 ≤ s) (h1 : s < 2147483647)
    (k : ∀ (d : Addr) (H' : Hp), H d = none → Ex H H' → DSt H' d → D.rt (.ref d) H') : t_law_random_2 K E D [some (.ref a), some (.int z), some (.int s), u] H := by
  refine ⟨_, rfl, (by show 2 ≤ sizeLine; decide), fun p hp => ?_⟩
  have e1 : Ex H (upd H p (.lst [.int s, .int 0])) := ex_new hp
  refine ⟨_, rfl, a, rfl, ⟨_, sq_ex e1 hS⟩, fun q hq => lc_pure walk_list (fun i => decide ((10 : Int) ^ 18 ≤ ns.getD i 0)) (fun i => .int (ns.getD i 0)) hq (by rw [List.length_map]; exact Nat.lt_of_le_of_lt hn (by decide)) (fun H3 e => sq_ex (ex_trans e1 e) hS) ?_ ?_⟩
  · rintro i x H3 H4 hi e ⟨rfl, hx⟩ Q Zf q1 q2
    rw [List.getElem?_map] at hx
    have hi2 : i < ns.length := by
      rw [List.length_map] at hi
      exact hi
    rw [List.getElem?_eq_getElem hi2] at hx
    have ex : V.int ns[i] = x := Option.some.inj hx
    subst ex
    have eg : ns.getD i 0 = ns[i] := by
      rw [List.getD_eq_getElem?_getD, List.getElem?_eq_getElem hi2]
      rfl
    rw [eg] at q1 q2
    refine ⟨rfl, ?_⟩
    refine ⟨_, rfl, 10, 18, rfl, rfl, ⟨by decide, by decide, by decide⟩, _, _, rfl, rfl, _, rfl, ?_⟩
    by_cases c : (10 : Int) ^ 18 ≤ ns[i]
    · refine iteT' (decide_eq_true c) ⟨_, rfl, q1 (decide_eq_true c) _ (ex_refl _)⟩
    · refine iteF' (decide_eq_false c) (q2 (decide_eq_false c) _ (ex_refl _))
  · intro H3 e hq3
    obtain ⟨r, hr, hr2, hr3⟩ : ∃ r : List Int, ((List.range (ns.map V.int).length).filter (fun i => decide ((10 : Int) ^ 18 ≤ ns.getD i 0))).map (fun i => V.int (ns.getD i 0)) = r.map V.int ∧ (∀ y ∈ r, 0 ≤ y) ∧ r.length ≤ 63 := by
      refine ⟨((List.range (ns.map V.int).length).filter (fun i => decide ((10 : Int) ^ 18 ≤ ns.getD i 0))).map (fun i => ns.getD i 0), ?_, ?_, ?_⟩
      · rw [List.map_map]
        rfl
      · intro y hy
        obtain ⟨i, hi, rfl⟩ := List.mem_map.mp hy
        have := of_decide_eq_true (List.mem_filter.mp hi).2
        omega
      · rw [List.length_map]
        refine Nat.le_trans (List.length_filter_le ..) ?_
        rw [List.length_range, List.length_map]
        exact hn
    rw [hr] at hq3
    refine ⟨p, q, _, _, rfl, rfl, e _ _ upd_same, hq3, ?_, fun d hd => ?_⟩
    · rw [List.length_map]
      refine Nat.le_trans (Nat.add_le_add_left hr3 _) (by show 2 + 63 ≤ sizeLine; decide)
    · refine k d _ (ex_free (ex_trans e1 e) hd) (ex_trans (ex_trans e1 e) (ex_new hd)) ⟨s, 0, r, upd_same, h0, h1, Int.le_refl 0, hr2, hr3⟩
theorem pure_law_random {K : PySem.W.Frag} (ws : List V) (H : Hp) (Q : VK) (E : XK) (h : sp_law_random K ws H Q E) :
    t_law_random_0 K E { nx := fun _ H' => Q .non H', rt := Q } (start ["_law_script", "_law_salt", "_law_seed", "_law_cell"] ws) H := by
  unfold sp_law_random at h
  obtain ⟨a, ns, z, rfl, hS, hn, z0, z1, k⟩ := h
  refine ⟨_, rfl, ?_⟩
  show t_law_random_1 K E _ [some (.ref a), some (.int z), some (.int z), none] H
  unfold t_law_random_1
  refine ⟨_, rfl, a, rfl, ⟨_, hS⟩, for_it walk_list (fun i σ H' => H' = H ∧ ∃ (s : Int) (u : Option V), σ = [some (.ref a), some (.int z), some (.int s), u] ∧ 0 ≤ s ∧ s < 2147483647) ⟨rfl, z, none, rfl, z0, z1⟩ (fun i σ H' _ h => by rw [h.1]; exact hS) ?_ ?_⟩
  · rintro i x σ H1 H2 hi ⟨rfl, s, u, rfl, h0, h1⟩ ⟨rfl, hx⟩
    rw [List.getElem?_map] at hx
    have hi2 : i < ns.length := by
      rw [List.length_map] at hi
      exact hi
    rw [List.getElem?_eq_getElem hi2] at hx
    have ex : V.int ns[i] = x := Option.some.inj hx
    subst ex
    refine ⟨_, rfl, s, 31, rfl, rfl, .inr ⟨by decide, by decide⟩, _, rfl, _, rfl, _, _, rfl, rfl, .inl ⟨_, rfl, ?_⟩⟩
    refine ⟨_, _, rfl, rfl, (by show (0 : Int) < 2147483647; decide), ?_⟩
    exact ⟨rfl, _, _, rfl, Int.emod_nonneg _ (by decide), Int.emod_lt_of_pos _ (by decide)⟩
  · rintro σ H1 ⟨rfl, s, u, rfl, h0, h1⟩
    exact random_2 (E := E) hS hn h0 h1 k

/-! ### a drawn rhyme -/
@[irreducible] def sp_law_drawn (K : PySem.W.Frag) : Sp := fun ws H Q _ => ∃ (d : Addr), ws = [.ref d] ∧ DSt H d ∧
  ∀ (x : V) (vs : List Ve) (left : Int) (H' : Hp), RhOk vs left → Dp K H' x (tD vs left) → DSt H' d → Fx d H H' → Q x H'
def t_law_drawn_1a_0 (K : PySem.W.Frag) (E : XK) : TS := (tDrop (tBM K "list" rAppend (tVar 1) (tCons (tTup (tCons (tCall (sp_law_pick K) [] E0 (tCons (tVar 0) (tCons (tLst (tCons (tC (.str "on")) (tCons (tC (.str "on")) (tCons (tC (.str "back")) tNil)))) tNil))) (tCons (tOp oAdd (tC (.int 1)) (tCall (sp_law_below K) [] E0 (tCons (tVar 0) (tCons (tC (.int 6)) tNil)))) tNil))) tNil)))

def t_law_drawn_2 (K : PySem.W.Frag) (E : XK) : TS := (tRet (tTup (tCons (tCB (cTup K) (tCons (tVar 1) tNil)) (tCons (tOp oAdd (tC (.int 1)) (tCall (sp_law_below K) [] E0 (tCons (tVar 0) (tCons (tC (.int 3)) tNil)))) tNil))))

@[irreducible] def t_law_drawn_1 (K : PySem.W.Frag) (E : XK) : TS := tSeq (tFor (iRng1 (tCons (tOp oAdd (tC (.int 1)) (tCall (sp_law_below K) [] E0 (tCons (tVar 0) (tCons (tC (.int 4)) tNil)))) tNil)) (gName 2)
    (t_law_drawn_1a_0 K E)) (t_law_drawn_2 K E)

def t_law_drawn_0 (K : PySem.W.Frag) (E : XK) : TS := tSeq (tAsg (tLst tNil) (gName 1)) (t_law_drawn_1 K E)

theorem dst_l {H : Hp} {d : Addr} (h : DSt H d) : ∃ zs, H d = some (.lst zs) := by
  obtain ⟨s, x, r, hd, _⟩ := h
  exact ⟨_, hd⟩
theorem dst_noT {H : Hp} {d : Addr} (h : DSt H d) : NoT (H d) := by
  obtain ⟨zs, hd⟩ := dst_l h
  exact noT_l hd
theorem dst_ex {H H' : Hp} {d : Addr} (e : Ex H H') (h : DSt H d) : DSt H' d := by
  obtain ⟨s, x, r, hd, hr⟩ := h
  exact ⟨s, x, r, e _ _ hd, hr⟩
/-- what stands of the drawn verses: the list at l -/
structure VsL (K : PySem.W.Frag) (H : Hp) (l : Addr) (vs : List Ve) : Prop where
  ex : ∃ xs, H l = some (.lst xs) ∧ DpAll K H xs (vs.map vD)
  cnt : ∀ v ∈ vs, 1 ≤ v.2 ∧ v.2 ≤ 6
theorem vsD_flats (vs : List Ve) : flatDs (vs.map vD) = true := vsD_flat vs
theorem drawn_turn {K : PySem.W.Frag} {E : XK} {D : Ends} {d l : Addr} {u : Option V} {vs : List Ve} {H : Hp} (hD : DSt H d) (nl : l ≠ d) (hv : VsL K H l vs) (hn : vs.length ≤ 10)
    (k : ∀ (v : Ve) (H' : Hp), VsL K H' l (vs ++ [v]) → DSt H' d → (∀ b o, b ≠ d → b ≠ l → H b = some o → H' b = some o) → D.nx [some (.ref d), some (.ref l), u] H') :
    t_law_drawn_1a_0 K E D [some (.ref d), some (.ref l), u] H := by
  obtain ⟨⟨xs, hl, hall⟩, hc⟩ := hv
  refine ⟨_, rfl, .inl ⟨rfl, _, SqL.of hl⟩, _, rfl, (by show 3 ≤ sizeLine; decide), fun p hp => ?_⟩
  have np : d ≠ p := by
    obtain ⟨zs, hd⟩ := dst_l hD
    exact ne_of_none hd hp
  have e1 := ex_new (o := .lst [.str "on", .str "on", .str "back"]) hp
  unfold sp_law_pick
  refine ⟨d, p, [.str "on", .str "on", .str "back"], rfl, dst_ex e1 hD, upd_same, np.symm, by simp, by decide, fun i w H2 hw hD2 f2 => ?_⟩
  obtain ⟨b, rfl⟩ : ∃ b, w = .str (wayS b) := by
    match i, hw with
    | 0, h => exact ⟨true, (Option.some.inj h).symm⟩
    | 1, h => exact ⟨true, (Option.some.inj h).symm⟩
    | 2, h => exact ⟨false, (Option.some.inj h).symm⟩
    | i + 3, h => simp at h
  refine ⟨_, rfl, ?_⟩
  unfold sp_law_below
  refine ⟨d, 6, rfl, hD2, by decide, by decide, fun r H3 r0 r6 hD3 f3 => ?_⟩
  refine ⟨1, r, rfl, rfl, (by show 2 ≤ sizeLine; decide), fun t ht => ?_⟩
  have F : Fx d H H3 := fx_trans (fx_ex e1) (fx_trans f2 f3)
  have hl3 : H3 l = some (.lst xs) := F l _ nl hl
  have e4 := ex_new (o := .tup [.str (wayS b), .int (1 + r)]) ht
  have hl4 := e4 _ _ hl3
  have hall4 : DpAll K (upd H3 t (.tup [.str (wayS b), .int (1 + r)])) xs (vs.map vD) := dpa_ex e4 (dpa_fxN (dst_noT hD) F (vsD_flats vs) hall)
  have ntl : t ≠ l := (ne_of_none hl3 ht).symm
  refine ⟨l, xs, _, rfl, rfl, hl4, ?_, ?_⟩
  · have := dpa_len hall
    rw [List.length_map] at this
    rw [this]
    exact Nat.lt_of_le_of_lt hn (by decide)
  · have hT : SqT K (upd (upd H3 t (.tup [.str (wayS b), .int (1 + r)])) l (.lst (xs ++ [.ref t]))) t [.str (wayS b), .int (1 + r)] := SqT.of (by rw [upd_ne ntl]; exact upd_same)
    refine k (b, 1 + r) _ ⟨⟨_, upd_same, ?_⟩, ?_⟩ ?_ ?_
    · rw [List.map_append]
      exact dpa_snoc (.tup hT (.cons (.str _) (.cons (.int _) .nil))) (dpa_fxN (noT_l hl4) fx_upd (vsD_flats vs) hall4)
    · intro v hm
      rcases List.mem_append.mp hm with hm | hm
      · exact hc v hm
      · rw [List.mem_singleton.mp hm]
        exact ⟨by show 1 ≤ 1 + r; omega, by show 1 + r ≤ 6; omega⟩
    · obtain ⟨s, x, r, hd, hr⟩ := dst_ex e4 hD3
      exact ⟨s, x, r, by rw [upd_ne nl.symm]; exact hd, hr⟩
    · intro b2 o nb nl2 hb
      rw [upd_ne nl2]
      exact e4 _ _ (F b2 o nb hb)
theorem pure_law_drawn {K : PySem.W.Frag} (ws : List V) (H : Hp) (Q : VK) (E : XK) (h : sp_law_drawn K ws H Q E) : t_law_drawn_0 K E { nx := fun _ H' => Q .non H', rt := Q } (start ["_law_d", "_law_verses", "_law_k"] ws) H := by
  unfold sp_law_drawn at h
  obtain ⟨d, rfl, hD, k⟩ := h
  refine ⟨Nat.zero_le _, fun l hl => ?_⟩
  show t_law_drawn_1 K E _ [some (.ref d), some (.ref l), none] _
  have nl : l ≠ d := by
    obtain ⟨zs, hd⟩ := dst_l hD
    exact (ne_of_none hd hl).symm
  have e1 := ex_new (o := .lst []) hl
  unfold t_law_drawn_1
  refine ⟨_, rfl, ?_⟩
  unfold sp_law_below
  refine ⟨d, 4, rfl, dst_ex e1 hD, by decide, by decide, fun r H1 r0 r4 hD1 f1 => ?_⟩
  have hl1 : H1 l = some (.lst []) := f1 l _ nl upd_same
  have fr1 : ∀ b o, b ≠ d → b ≠ l → H b = some o → H1 b = some o := fun b o nb _ hb => f1 b o nb (e1 b o hb)
  refine ⟨1, r, rfl, rfl, 1 + r, rfl, by omega, by omega, for_range (fun i σ H' => ∃ (vs : List Ve) (u : Option V), σ = [some (.ref d), some (.ref l), u] ∧ VsL K H' l vs ∧ DSt H' d ∧ vs.length = i ∧ (∀ b o, b ≠ d → b ≠ l → H b = some o → H' b = some o))
    ⟨[], none, rfl, ⟨⟨[], hl1, .nil⟩, fun v hm => nomatch hm⟩, hD1, rfl, fr1⟩ ?_ ?_⟩
  · rintro i σ H2 hi ⟨vs, u, rfl, hv, hD2, hlen, fr⟩
    refine drawn_turn (E := E) hD2 nl hv (by omega) fun v H3 hv3 hD3 fr3 => ?_
    refine ⟨vs ++ [v], _, rfl, hv3, hD3, by rw [List.length_append, hlen]; rfl, fun b o nb nl2 hb => fr3 b o nb nl2 (fr b o nb nl2 hb)⟩
  · rintro σ H2 ⟨vs, u, rfl, ⟨⟨xs, hl2, hall⟩, hc⟩, hD2, hlen, fr⟩
    refine ⟨_, rfl, l, xs, rfl, .inl ⟨SqL.of hl2, fun t ht => ?_⟩⟩
    have e2 := ex_new (o := .tup xs) ht
    refine ⟨_, rfl, ?_⟩
    unfold sp_law_below
    refine ⟨d, 3, rfl, dst_ex e2 hD2, by decide, by decide, fun r2 H3 q0 q3 hD3 f3 => ?_⟩
    refine ⟨1, r2, rfl, rfl, (by show 2 ≤ sizeLine; decide), fun t2 ht2 => ?_⟩
    have e4 := ex_new (o := .tup [.ref t, .int (1 + r2)]) ht2
    have dv : Dp K (upd H2 t (.tup xs)) (.ref t) (vsD vs) := .tup (SqT.of upd_same) (dpa_ex e2 hall)
    have dv3 := dp_fxN (dst_noT (dst_ex e2 hD2)) f3 (vsD_flat vs) dv
    refine k (.ref t2) vs (1 + r2) _ ⟨by omega, by omega, hc, by omega, by omega⟩ (.tup (SqT.of upd_same) (.cons (dp_ex e4 dv3) (.cons (.int _) .nil))) (dst_ex e4 hD3) fun b o nb hb => ?_
    have nbl : b ≠ l := fun z => by
      rw [z, hl] at hb
      cases hb
    exact e4 _ _ (f3 b o nb (e2 _ _ (fr b o nb nbl hb)))

end Z
namespace Z
open PySem PySem.Spec PyProof.Rows L2
local macro_rules | `(tactic| walk_at "look") => `(tactic| first | assumption | exact upd_same | exact SqL.of (by assumption) | exact SqT.of (by assumption) | exact SqL.of upd_same | exact SqT.of upd_same)
local macro_rules | `(tactic| walk_at "at") => `(tactic| first | exact at0 | exact at1 | exact at2 | exact at3 | exact ix0 | exact ix1 | assumption | exact atI_nat (by rfl))
local macro_rules | `(tactic| walk_at "sd") => `(tactic| ((try dsimp only); first | assumption | omega | (unfold CMul; omega) | (unfold CDiv; omega) | (unfold CPow; decide) | decide))
local macro_rules | `(tactic| walk_at "st") => `(tactic| first
  | (refine ⟨_, rfl, ?_⟩)
  | (refine ⟨_, _, rfl, rfl, ?_⟩)
  | (refine ⟨rfl, ?_⟩)
  | (refine .inl ⟨_, rfl, ?_⟩)
  | (refine ⟨_, _, _, _, rfl, rfl, (by walk_at "look"), (by walk_at "at"), ?_⟩)
  | (refine ⟨_, _, rfl, .inl (by walk_at "look"), ?_⟩)
  | (refine And.intro (by walk_at "sd") ?_)
  | fail "no step")
local macro_rules | `(tactic| walk_at "go") => `(tactic| repeat' (walk_at "st"))
local macro_rules | `(tactic| walk_at "ans") => `(tactic| (intro Q q; (repeat' (walk_at "st")); exact q))
/-! ### data written down in the text -/
section
variable {d0 : Addr} {K : PySem.W.Frag}
structure LitE (d0 : Addr) (K : PySem.W.Frag) (te : TE) (e : PyData) : Prop where
  run : ∀ (σ : L2.St) (H : Hp) (Q : VK), H d0 ≠ none → (∀ v H', Ex H H' → Dp K H' v e → v ≠ .ref d0 → Q v H') → te σ H Q
structure LitA (d0 : Addr) (K : PySem.W.Frag) (ta : TA) (es : List PyData) : Prop where
  run : ∀ (σ : L2.St) (H : Hp) (Q : List V → Hp → Prop), H d0 ≠ none → (∀ vs H', Ex H H' → DpAll K H' vs es → (∀ v ∈ vs, v ≠ .ref d0) → Q vs H') → ta σ H Q
theorem lit_int (i : Int) : LitE d0 K (tC (.int i)) (.int i) := ⟨fun σ H Q _ q => q _ H (ex_refl H) (.int i) (fun z => nomatch z)⟩
theorem lit_str (i : Str) : LitE d0 K (tC (.str i)) (.str i) := ⟨fun σ H Q _ q => q _ H (ex_refl H) (.str i) (fun z => nomatch z)⟩
theorem lit_bl (i : Bool) : LitE d0 K (tC (.bl i)) (.bool i) := ⟨fun σ H Q _ q => q _ H (ex_refl H) (.bl i) (fun z => nomatch z)⟩
theorem lit_non : LitE d0 K (tC .non) .none := ⟨fun σ H Q _ q => q _ H (ex_refl H) .non (fun z => nomatch z)⟩
theorem lit_neg (i : Int) : LitE d0 K (tUn oNeg (tC (.int i))) (.int (-i)) := ⟨fun σ H Q _ q => ⟨i, rfl, q _ H (ex_refl H) (.int _) (fun z => nomatch z)⟩⟩
theorem lit_nil : LitA d0 K tNil [] := ⟨fun σ H Q _ q => q [] H (ex_refl H) .nil (fun v h => nomatch h)⟩
theorem lit_cons {te : TE} {e : PyData} {ta : TA} {es : List PyData} (he : LitE d0 K te e) (ha : LitA d0 K ta es) : LitA d0 K (tCons te ta) (e :: es) := ⟨fun σ H Q h q => he.run σ H _ h fun v H1 e1 hv nv => ha.run σ H1 _ (fun z => h (ex_free e1 z)) fun vs H2 e2 hvs nvs =>
  q (v :: vs) H2 (ex_trans e1 e2) (.cons (dp_ex e2 hv) hvs) fun w hw => by
    rcases List.mem_cons.mp hw with rfl | hw
    · exact nv
    · exact nvs w hw⟩
theorem new_ne {H H1 : Hp} {p : Addr} (h : H d0 ≠ none) (e1 : Ex H H1) (hp : H1 p = none) : V.ref p ≠ V.ref d0 := fun z => h (ex_free e1 (by rw [← V.ref.inj z]; exact hp))
theorem lit_tup {ta : TA} {es : List PyData} (ha : LitA d0 K ta es) (hl : es.length ≤ 1000) : LitE d0 K (tTup ta) (.tuple es) := ⟨fun σ H Q h q => ha.run σ H _ h fun vs H1 e1 hvs nvs =>
  ⟨by rw [dpa_len hvs]; exact Nat.le_trans hl (by decide), fun p hp => q (.ref p) _ (ex_trans e1 (ex_new hp)) (.tup (SqT.of upd_same) (dpa_ex (ex_new hp) hvs)) (new_ne h e1 hp)⟩⟩
theorem lit_lst {ta : TA} {es : List PyData} (ha : LitA d0 K ta es) (hl : es.length ≤ 1000) : LitE d0 K (tLst ta) (.list es) := ⟨fun σ H Q h q => ha.run σ H _ h fun vs H1 e1 hvs nvs =>
  ⟨by rw [dpa_len hvs]; exact Nat.le_trans hl (by decide), fun p hp => q (.ref p) _ (ex_trans e1 (ex_new hp)) (.lst (SqL.of upd_same) (dpa_ex (ex_new hp) hvs)) (new_ne h e1 hp)⟩⟩
end
theorem lstA_go {d0 : Addr} {K : PySem.W.Frag} {ta : TA} {es : List PyData} {σ : L2.St} {H : Hp} {Q : VK} (A : LitA d0 K ta es) (h : H d0 ≠ none) (hl : es.length ≤ 1000)
    (q : ∀ (xs : List V) (H1 : Hp) (p : Addr), Ex H H1 → DpAll K H1 xs es → (∀ v ∈ xs, v ≠ .ref d0) → H1 p = none → p ≠ d0 → Q (.ref p) (upd H1 p (.lst xs))) : tLst ta σ H Q := by
  refine A.run σ H _ h fun xs H1 e1 hxs nxs => ⟨by rw [dpa_len hxs]; exact Nat.le_trans hl (by decide), fun p hp => q xs H1 p e1 hxs nxs hp fun z => h (ex_free e1 (by rw [← z]; exact hp))⟩
theorem lstA_go1 {d0 : Addr} {K : PySem.W.Frag} {ta : TA} {es : List PyData} {σ : L2.St} {H : Hp} {Q : List V → Hp → Prop} (A : LitA d0 K ta es) (h : H d0 ≠ none) (hl : es.length ≤ 1000)
    (q : ∀ (xs : List V) (H1 : Hp) (p : Addr), Ex H H1 → DpAll K H1 xs es → (∀ v ∈ xs, v ≠ .ref d0) → H1 p = none → p ≠ d0 → Q [.ref p] (upd H1 p (.lst xs))) : tCons (tLst ta) tNil σ H Q := lstA_go A h hl q
/-! ### data that stays while the source is drawn from -/
def okF : PyData → Bool
  | .list ds => flatDs ds
  | e => flatD e
theorem sql_fxN {K : PySem.W.Frag} {H H' : Hp} {a d : Addr} {xs : List V} (nd : a ≠ d) (e : Fx d H H') (h : SqL K H a xs) : SqL K H' a xs := by
  rcases h with (h | ⟨o, h⟩) | h
  · exact .inl (.inl (e _ _ nd h))
  · exact .inl (.inr ⟨o, e _ _ nd h⟩)
  · exact .inr h
theorem dp_fxO {K : PySem.W.Frag} {H H' : Hp} {d : Addr} {v : V} {e : PyData} (hd : NoT (H d)) (f : Fx d H H') (nv : v ≠ .ref d) (ok : okF e = true) (h : Dp K H v e) : Dp K H' v e := by
  cases h with
  | non => exact .non
  | bl b => exact .bl b
  | int i => exact .int i
  | str x => exact .str x
  | lst hs ha => exact .lst (sql_fxN (fun z => nv (by rw [z])) f hs) (dpa_fxN hd f ok ha)
  | tup hs ha => exact .tup (sqt_fxN hd f hs) (dpa_fxN hd f ok ha)
theorem pickO_go {K : PySem.W.Frag} {H : Hp} {d p : Addr} {xs : List V} {es : List PyData} {Q : VK} {E : XK} (hD : DSt H d) (hp : H p = some (.lst xs)) (np : p ≠ d) (hne : xs ≠ []) (hl : xs.length ≤ 1000) (hall : DpAll K H xs es) (nv : ∀ v ∈ xs, v ≠ .ref d) (ok : ∀ e ∈ es, okF e = true)
    (k : ∀ v e H', e ∈ es → Dp K H' v e → v ≠ .ref d → DSt H' d → Fx d H H' → Q v H') : sp_law_pick K [.ref d, .ref p] H Q E := by
  unfold sp_law_pick
  refine ⟨d, p, xs, rfl, hD, hp, np, hne, hl, fun i v H' hv hD' f => ?_⟩
  obtain ⟨e, he, hd⟩ := dpa_get' hall hv
  have me := List.mem_of_getElem? he
  have nvd := nv v (List.mem_of_getElem? hv)
  exact k v e H' me (dp_fxO (dst_noT hD) f nvd (ok e me) hd) nvd hD' f

end Z
namespace Z
open PySem PySem.Spec PyProof.Rows L2
local macro_rules | `(tactic| walk_at "look") => `(tactic| first | assumption | exact upd_same | exact SqL.of (by assumption) | exact SqT.of (by assumption) | exact SqL.of upd_same | exact SqT.of upd_same)
local macro_rules | `(tactic| walk_at "at") => `(tactic| first | exact at0 | exact at1 | exact at2 | exact at3 | exact ix0 | exact ix1 | assumption | exact atI_nat (by rfl))
local macro_rules | `(tactic| walk_at "sd") => `(tactic| ((try dsimp only); first | assumption | omega | (unfold CMul; omega) | (unfold CDiv; omega) | (unfold CPow; decide) | decide))
local macro_rules | `(tactic| walk_at "st") => `(tactic| first
  | (refine ⟨_, rfl, ?_⟩)
  | (refine ⟨_, _, rfl, rfl, ?_⟩)
  | (refine ⟨rfl, ?_⟩)
  | (refine .inl ⟨_, rfl, ?_⟩)
  | (refine ⟨_, _, _, _, rfl, rfl, (by walk_at "look"), (by walk_at "at"), ?_⟩)
  | (refine ⟨_, _, rfl, .inl (by walk_at "look"), ?_⟩)
  | (refine And.intro (by walk_at "sd") ?_)
  | fail "no step")
local macro_rules | `(tactic| walk_at "go") => `(tactic| repeat' (walk_at "st"))
local macro_rules | `(tactic| walk_at "ans") => `(tactic| (intro Q q; (repeat' (walk_at "st")); exact q))

/-! ### x[i] of a list or a tuple -/
def rIxA (K : PySem.W.Frag) : R2 := fun x y H Q => rIxL K x y H Q ∨ rIxT K x y H Q
theorem ix_any {X : Cx} : IxR X (rIxA X.K) := by
  intro value slice pins s σ H x y v u Q I rx ry h hs
  rcases h with h | h
  · exact ix_list value slice pins s σ H x y v u Q I rx ry h hs
  · exact ix_tup value slice pins s σ H x y v u Q I rx ry h hs
/-! ### the law's own equality -/
mutual
def same : PyData → PyData → Bool
  | .none, .none => true
  | .bool a, .bool b => decide (a = b)
  | .int a, .int b => decide (a = b)
  | .str a, .str b => decide (a = b)
  | .list a, .list b => sameA a b
  | .tuple a, .tuple b => sameA a b
  | _, _ => false
def sameA : List PyData → List PyData → Bool
  | [], [] => true
  | x :: xs, y :: ys => same x y && sameA xs ys
  | _, _ => false
end
/-- no dict, so deep -/
def okD : Nat → PyData → Prop
  | _, .none => True
  | _, .bool _ => True
  | _, .int _ => True
  | _, .str _ => True
  | 0, _ => False
  | n + 1, .list ds => ds.length ≤ 10000 ∧ ∀ d ∈ ds, okD n d
  | n + 1, .tuple ds => ds.length ≤ 10000 ∧ ∀ d ∈ ds, okD n d
  | _ + 1, .dict _ => False
/-- n: how deep the second one is -/
def spEq : Nat → PySem.W.Frag → Sp
  | 0, _ => fun _ _ _ _ => False
  | n + 1, K => fun ws H Q _ => ∃ (x y : V) (d e : PyData), ws = [x, y] ∧ Dp K H x d ∧ Dp K H y e ∧ okD n e ∧ ∀ H', Ex H H' → Q (.bl (same d e)) H'
@[irreducible] def sp_law_equal (n : Nat) (K : PySem.W.Frag) : Sp := spEq n K
def t_law_equal_0a_0 (K : PySem.W.Frag) (n : Nat) (E : XK) : TS := (tRet (tOp oIsN (tVar 0) (tC .non)))

def t_law_equal_1a_0 (K : PySem.W.Frag) (n : Nat) (E : XK) : TS := (tRet (tAndV (tCB (rIsi K) (tCons (tVar 0) (tCons (tC (.ty "bool")) tNil))) (tOp rEq (tVar 0) (tVar 1))))

def t_law_equal_2a_0 (K : PySem.W.Frag) (n : Nat) (E : XK) : TS := (tRet (tAndV (tCB (rIsi K) (tCons (tVar 0) (tCons (tC (.ty "int")) tNil))) (tAndV (tNotV (tCB (rIsi K) (tCons (tVar 0) (tCons (tC (.ty "bool")) tNil)))) (tOp rEq (tVar 0) (tVar 1)))))

def t_law_equal_3a_0 (K : PySem.W.Frag) (n : Nat) (E : XK) : TS := (tRet (tAndV (tCB (rIsi K) (tCons (tVar 0) (tCons (tC (.ty "str")) tNil))) (tOp rEq (tVar 0) (tVar 1))))

def t_law_equal_4a_0a_0 (K : PySem.W.Frag) (n : Nat) (E : XK) : TS := (tRet (tC (.bl false)))

def t_law_equal_4a_1 (K : PySem.W.Frag) (n : Nat) (E : XK) : TS := (tRet (tCB (rAll K) (tCons (tLc (iList K (tCB (cLst K) (tCons (tVar 0) tNil))) (gName 2) tYes (tCall (sp_law_equal n K) [] E0 (tCons (tOp (rIxL K) (tVar 0) (tVar 2)) (tCons (tOp (rIxL K) (tVar 1) (tVar 2)) tNil))) [2]) tNil)))

@[irreducible] def t_law_equal_4a_0 (K : PySem.W.Frag) (n : Nat) (E : XK) : TS := tSeq (tIfS (tOr (tNot (tB (tCB (rIsi K) (tCons (tVar 0) (tCons (tC (.ty "dict")) tNil))))) (tTest (tOp rNe (tCB (cLst K) (tCons (tVar 0) tNil)) (tCB (rSorted K) (tCons (tCB (cLst K) (tCons (tVar 1) tNil)) tNil)))))
    (t_law_equal_4a_0a_0 K n E) tNext) (t_law_equal_4a_1 K n E)

def t_law_equal_5a_0 (K : PySem.W.Frag) (n : Nat) (E : XK) : TS := (tRet (tC (.bl false)))

def t_law_equal_6a_0 (K : PySem.W.Frag) (n : Nat) (E : XK) : TS := (tRet (tC (.bl false)))

def t_law_equal_7a_0 (K : PySem.W.Frag) (n : Nat) (E : XK) : TS := (tRet (tC (.bl false)))

def t_law_equal_8 (K : PySem.W.Frag) (n : Nat) (E : XK) : TS := (tRet (tCB (rAll K) (tCons (tLc (iRng1 (tCons (tCB (cLen K) (tCons (tVar 1) tNil)) tNil)) (gName 3) tYes (tCall (sp_law_equal n K) [] E0 (tCons (tOp (rIxA K) (tVar 0) (tVar 3)) (tCons (tOp (rIxA K) (tVar 1) (tVar 3)) tNil))) [3]) tNil)))

@[irreducible] def t_law_equal_7 (K : PySem.W.Frag) (n : Nat) (E : XK) : TS := tSeq (tIfS (tTest (tOp rNe (tCB (cLen K) (tCons (tVar 0) tNil)) (tCB (cLen K) (tCons (tVar 1) tNil))))
    (t_law_equal_7a_0 K n E) tNext) (t_law_equal_8 K n E)

@[irreducible] def t_law_equal_6 (K : PySem.W.Frag) (n : Nat) (E : XK) : TS := tSeq (tIfS (tTest (tOp rNe (tCB (rIsi K) (tCons (tVar 1) (tCons (tC (.ty "list")) tNil))) (tCB (rIsi K) (tCons (tVar 0) (tCons (tC (.ty "list")) tNil)))))
    (t_law_equal_6a_0 K n E) tNext) (t_law_equal_7 K n E)

@[irreducible] def t_law_equal_5 (K : PySem.W.Frag) (n : Nat) (E : XK) : TS := tSeq (tIfS (tTest (tOp rNe (tCB (rIsi K) (tCons (tVar 1) (tCons (tC (.ty "tuple")) tNil))) (tCB (rIsi K) (tCons (tVar 0) (tCons (tC (.ty "tuple")) tNil)))))
    (t_law_equal_5a_0 K n E) tNext) (t_law_equal_6 K n E)

@[irreducible] def t_law_equal_4 (K : PySem.W.Frag) (n : Nat) (E : XK) : TS := tSeq (tIfS (tB (tCB (rIsi K) (tCons (tVar 1) (tCons (tC (.ty "dict")) tNil))))
    (t_law_equal_4a_0 K n E) tNext) (t_law_equal_5 K n E)

@[irreducible] def t_law_equal_3 (K : PySem.W.Frag) (n : Nat) (E : XK) : TS := tSeq (tIfS (tB (tCB (rIsi K) (tCons (tVar 1) (tCons (tC (.ty "str")) tNil))))
    (t_law_equal_3a_0 K n E) tNext) (t_law_equal_4 K n E)

@[irreducible] def t_law_equal_2 (K : PySem.W.Frag) (n : Nat) (E : XK) : TS := tSeq (tIfS (tB (tCB (rIsi K) (tCons (tVar 1) (tCons (tC (.ty "int")) tNil))))
    (t_law_equal_2a_0 K n E) tNext) (t_law_equal_3 K n E)

@[irreducible] def t_law_equal_1 (K : PySem.W.Frag) (n : Nat) (E : XK) : TS := tSeq (tIfS (tB (tCB (rIsi K) (tCons (tVar 1) (tCons (tC (.ty "bool")) tNil))))
    (t_law_equal_1a_0 K n E) tNext) (t_law_equal_2 K n E)

@[irreducible] def t_law_equal_0 (K : PySem.W.Frag) (n : Nat) (E : XK) : TS := tSeq (tIfS (tTest (tOp oIsN (tVar 1) (tC .non)))
    (t_law_equal_0a_0 K n E) tNext) (t_law_equal_1 K n E)

theorem sameA_len : ∀ {a b : List PyData}, a.length ≠ b.length → sameA a b = false
  | [], [], h => absurd rfl h
  | [], _ :: _, _ => rfl
  | _ :: _, [], _ => rfl
  | x :: a, y :: b, h => by
    show (same x y && sameA a b) = false
    rw [sameA_len (fun z => h (congrArg (· + 1) z)), Bool.and_false]
theorem sameA_all : ∀ {a b : List PyData}, a.length = b.length → sameA a b = ((List.range b.length).map fun i => same (a.getD i .none) (b.getD i .none)).all id
  | [], [], _ => rfl
  | x :: a, y :: b, h => by
    have h2 : a.length = b.length := Nat.succ.inj h
    show (same x y && sameA a b) = _
    rw [sameA_all h2, List.length_cons, List.range_succ_eq_map, List.map_cons, List.all_cons, List.map_map]
    rfl
  | [], _ :: _, h => by cases h
  | _ :: _, [], h => by cases h
theorem scal_bl (a b : Bool) : scal (V.bl a) (V.bl b) = true := rfl
theorem d_bl (a b : Bool) : decide (V.bl a = V.bl b) = decide (a = b) := by
  cases a <;> cases b <;> decide
theorem getD_at {α : Type} {l : List α} {i : Nat} {d : α} (h : i < l.length) : l[i]? = some (l.getD i d) := by
  rw [List.getD_eq_getElem?_getD, List.getElem?_eq_getElem h]
  rfl
/-- the i-th of a sequence of data -/
theorem ixA_go {K : PySem.W.Frag} {H : Hp} {a : Addr} {xs : List V} {ds : List PyData} {i : Nat} {j : Int} {Q : VK} (hj : j = (i : Int)) (hs : SqL K H a xs ∨ SqT K H a xs) (hall : DpAll K H xs ds) (hi : i < ds.length) (q : ∀ v, Dp K H v (ds.getD i .none) → Q v H) : rIxA K (.ref a) (.int j) H Q := by
  obtain ⟨v, hv, hd⟩ := dpa_get hall (getD_at (d := PyData.none) hi)
  rcases hs with hs | hs
  · exact .inl ⟨a, xs, _, v, rfl, rfl, hs, at_of hj hv, q v hd⟩
  · exact .inr ⟨a, xs, _, v, rfl, rfl, hs, at_of hj hv, q v hd⟩
section
variable {K : PySem.W.Frag} {E : XK} {n : Nat} {H : Hp} {Q : VK}
theorem equal_8 {D : Ends} {a b : Addr} {u2 u3 : Option V} {xs ys : List V} {ds es : List PyData} (ha : SqL K H a xs ∨ SqT K H a xs) (hb : SqL K H b ys ∨ SqT K H b ys) (da : DpAll K H xs ds) (db : DpAll K H ys es)
    (h10 : es.length ≤ 10000) (hok : ∀ d ∈ es, okD n d) (k : ∀ H', Ex H H' → D.rt (.bl (sameA ds es)) H') : t_law_equal_7 K (n + 1) E D [some (.ref a), some (.ref b), u2, u3] H := by
  unfold t_law_equal_7
  have la := dpa_len da
  have lb := dpa_len db
  refine if_go (!decide (ds.length = es.length)) (fun Q q => ?_) (fun c => ?_) (fun c => ?_)
  · refine ⟨_, rfl, a, xs, rfl, ha, _, rfl, b, ys, rfl, hb, rfl, _, rfl, ?_⟩
    rw [d_int, la, lb]
    have e : decide ((ds.length : Int) = (es.length : Int)) = decide (ds.length = es.length) := by
      by_cases h : ds.length = es.length
      · rw [decide_eq_true h, decide_eq_true (by omega)]
      · rw [decide_eq_false h, decide_eq_false (by omega)]
    rw [e]
    exact q
  · have h : ds.length ≠ es.length := fun z => by
      rw [decide_eq_true z] at c
      cases c
    have := k H (ex_refl _)
    rw [sameA_len h] at this
    exact this
  · have h : ds.length = es.length := by
      by_cases z : ds.length = es.length
      · exact z
      · rw [decide_eq_false z] at c
        cases c
    have h10000 : (10000 : Nat) < sizeLine := by decide
    refine ⟨_, rfl, b, ys, rfl, hb, _, rfl, by omega, by omega, fun p hp => lc_map walk_range (fun i => .bl (same (ds.getD i .none) (es.getD i .none))) hp (by omega) (fun _ _ => trivial) ?_ ?_⟩
    · rintro i x H3 H4 hi e ⟨rfl, rfl⟩ Q Zf q
      have hi2 : i < es.length := by omega
      have e0 : (0 : Int) + (i : Int) = ((i : Nat) : Int) := by omega
      refine ⟨rfl, iteT (B := Zf H4) ?_⟩
      refine ⟨_, rfl, _, rfl, ?_⟩
      have ha4 : SqL K H4 a xs ∨ SqT K H4 a xs := ha.imp (sq_ex e) (sqt_ex e)
      have hb4 : SqL K H4 b ys ∨ SqT K H4 b ys := hb.imp (sq_ex e) (sqt_ex e)
      refine ixA_go e0 ha4 (dpa_ex e da) (by omega) fun v hv => ⟨_, rfl, _, rfl, ?_⟩
      refine ixA_go e0 hb4 (dpa_ex e db) hi2 fun w hw => ?_
      unfold sp_law_equal
      refine ⟨v, w, _, _, rfl, hv, hw, hok _ ?_, fun H5 e5 => q H5 e5⟩
      exact List.mem_of_getElem? (getD_at (d := PyData.none) hi2)
    · intro H3 e h3
      refine ⟨p, ((List.range es.length).map fun i => same (ds.getD i .none) (es.getD i .none)), rfl, ?_, ?_⟩
      · have e5 : ((ys.length : Int)).toNat = es.length := by omega
        rw [e5] at h3
        rw [List.map_map]
        exact SqL.of h3
      · rw [← sameA_all h]
        exact k H3 e
theorem isiD_go {v : V} {d : PyData} {c : String} (b : Bool) (h : Dp K H v d) (e : kitB (tyN d) c = some b) {i : Nat} {σ : L2.St} (hv : σ[i]? = some (some v)) (q : Q (.bl b) H) : tCB (rIsi K) (tCons (tVar i) (tCons (tC (.ty c)) tNil)) σ H Q :=
  ⟨v, hv, isi_go h e q⟩
/-- isinstance of the first one, then its equality -/
theorem and_isi {v : V} {d : PyData} {c : String} (b r : Bool) (hd : Dp K H v d) (e : kitB (tyN d) c = some b) {te : TE} {σ : L2.St} (hv : σ[0]? = some (some v)) (hf : b = false → r = false) (ht : b = true → ∀ Q : VK, Q (.bl r) H → te σ H Q) (q : Q (.bl r) H) :
    tAndV (tCB (rIsi K) (tCons (tVar 0) (tCons (tC (.ty c)) tNil))) te σ H Q := by
  refine andV_go b r (fun Q q => isiD_go b hd e hv q) (fun hb Q q => ht hb Q q) ?_
  cases b with
  | true => exact q
  | false =>
    have h := hf rfl
    subst h
    exact q
/-- tests that one kind alone passes -/
theorem kind_no {t u : TS} {D : Ends} {v : V} {d : PyData} {c : String} {σ : L2.St} (hd : Dp K H v d) (e : kitB (tyN d) c = some false) (hv : σ[1]? = some (some v)) (k : u D σ H) :
    tIfS (tB (tCB (rIsi K) (tCons (tVar 1) (tCons (tC (.ty c)) tNil)))) t u D σ H :=
  if_go false (fun Q q => isiD_go (Q := fun x H1 => ∃ c, x = .bl c ∧ Q c H1) false hd e hv ⟨false, rfl, q⟩) (fun z => nomatch z) fun _ => k
theorem kind_yes {t u : TS} {D : Ends} {v : V} {d : PyData} {c : String} {σ : L2.St} (hd : Dp K H v d) (e : kitB (tyN d) c = some true) (hv : σ[1]? = some (some v)) (k : t D σ H) :
    tIfS (tB (tCB (rIsi K) (tCons (tVar 1) (tCons (tC (.ty c)) tNil)))) t u D σ H :=
  if_go true (fun Q q => isiD_go (Q := fun x H1 => ∃ c, x = .bl c ∧ Q c H1) true hd e hv ⟨true, rfl, q⟩) (fun _ => k) fun z => nomatch z
/-- both are of a kind, or not -/
theorem kind_ne {t u : TS} {D : Ends} {v w : V} {d e : PyData} {c : String} {σ : L2.St} (b1 b2 : Bool) (hd : Dp K H v d) (he : Dp K H w e) (ed : kitB (tyN d) c = some b1) (ee : kitB (tyN e) c = some b2) (hv : σ[0]? = some (some v)) (hw : σ[1]? = some (some w))
    (k1 : b2 ≠ b1 → t D σ H) (k2 : b2 = b1 → u D σ H) :
    tIfS (tTest (tOp rNe (tCB (rIsi K) (tCons (tVar 1) (tCons (tC (.ty c)) tNil))) (tCB (rIsi K) (tCons (tVar 0) (tCons (tC (.ty c)) tNil))))) t u D σ H := by
  refine if_go (!decide (b2 = b1)) (fun Q q => ?_) (fun z => k1 fun y => ?_) (fun z => k2 ?_)
  · refine isiD_go b2 he ee hw (isiD_go b1 hd ed hv ⟨scal_bl _ _, _, rfl, ?_⟩)
    rw [d_bl]
    exact q
  · rw [decide_eq_true y] at z
    cases z
  · by_cases y : b2 = b1
    · exact y
    · rw [decide_eq_false y] at z
      cases z
theorem tyN_kit : ∀ d : PyData, kitB (tyN d) "bool" = some (tyN d == "bool") ∧ kitB (tyN d) "int" = some (tyN d == "int" || tyN d == "bool") ∧ kitB (tyN d) "str" = some (tyN d == "str") ∧ kitB (tyN d) "dict" = some (tyN d == "dict") ∧
    kitB (tyN d) "tuple" = some (tyN d == "tuple") ∧ kitB (tyN d) "list" = some (tyN d == "list")
  | .none => by decide +kernel
  | .bool _ => (by decide +kernel : kitB "bool" "bool" = some ("bool" == "bool") ∧ kitB "bool" "int" = some ("bool" == "int" || "bool" == "bool") ∧ kitB "bool" "str" = some ("bool" == "str") ∧ kitB "bool" "dict" = some ("bool" == "dict") ∧ kitB "bool" "tuple" = some ("bool" == "tuple") ∧ kitB "bool" "list" = some ("bool" == "list"))
  | .int _ => (by decide +kernel : kitB "int" "bool" = some ("int" == "bool") ∧ kitB "int" "int" = some ("int" == "int" || "int" == "bool") ∧ kitB "int" "str" = some ("int" == "str") ∧ kitB "int" "dict" = some ("int" == "dict") ∧ kitB "int" "tuple" = some ("int" == "tuple") ∧ kitB "int" "list" = some ("int" == "list"))
  | .str _ => (by decide +kernel : kitB "str" "bool" = some ("str" == "bool") ∧ kitB "str" "int" = some ("str" == "int" || "str" == "bool") ∧ kitB "str" "str" = some ("str" == "str") ∧ kitB "str" "dict" = some ("str" == "dict") ∧ kitB "str" "tuple" = some ("str" == "tuple") ∧ kitB "str" "list" = some ("str" == "list"))
  | .list _ => (by decide +kernel : kitB "list" "bool" = some ("list" == "bool") ∧ kitB "list" "int" = some ("list" == "int" || "list" == "bool") ∧ kitB "list" "str" = some ("list" == "str") ∧ kitB "list" "dict" = some ("list" == "dict") ∧ kitB "list" "tuple" = some ("list" == "tuple") ∧ kitB "list" "list" = some ("list" == "list"))
  | .tuple _ => (by decide +kernel : kitB "tuple" "bool" = some ("tuple" == "bool") ∧ kitB "tuple" "int" = some ("tuple" == "int" || "tuple" == "bool") ∧ kitB "tuple" "str" = some ("tuple" == "str") ∧ kitB "tuple" "dict" = some ("tuple" == "dict") ∧ kitB "tuple" "tuple" = some ("tuple" == "tuple") ∧ kitB "tuple" "list" = some ("tuple" == "list"))
  | .dict _ => (by decide +kernel : kitB "dict" "bool" = some ("dict" == "bool") ∧ kitB "dict" "int" = some ("dict" == "int" || "dict" == "bool") ∧ kitB "dict" "str" = some ("dict" == "str") ∧ kitB "dict" "dict" = some ("dict" == "dict") ∧ kitB "dict" "tuple" = some ("dict" == "tuple") ∧ kitB "dict" "list" = some ("dict" == "list"))
/-- of two sequences, or where one of them is none -/
theorem equal_5 {D : Ends} {x : V} {b : Addr} {u2 u3 : Option V} {d e : PyData} {ys : List V} {es : List PyData} (hx : Dp K H x d) (he : (e = .list es ∧ SqL K H b ys) ∨ (e = .tuple es ∧ SqT K H b ys)) (db : DpAll K H ys es)
    (h10 : es.length ≤ 10000) (hok : ∀ d ∈ es, okD n d) (k : ∀ H', Ex H H' → D.rt (.bl (same d e)) H') : t_law_equal_5 K (n + 1) E D [some x, some (.ref b), u2, u3] H := by
  have hy : Dp K H (.ref b) e := by
    rcases he with ⟨rfl, h⟩ | ⟨rfl, h⟩
    · exact .lst h db
    · exact .tup h db
  obtain ⟨_, _, _, _, dt, dl⟩ := tyN_kit d
  obtain ⟨_, _, _, _, et, el⟩ := tyN_kit e
  unfold t_law_equal_5
  refine kind_ne _ _ hx hy dt et rfl rfl (fun z => ?_) (fun z1 => ?_)
  · have : same d e = false := by
      rcases he with ⟨rfl, _⟩ | ⟨rfl, _⟩ <;> cases d <;> first | rfl | exact absurd rfl z
    have k2 := k H (ex_refl _)
    rw [this] at k2
    exact k2
  show t_law_equal_6 K (n + 1) E D [some x, some (.ref b), u2, u3] H
  unfold t_law_equal_6
  refine kind_ne _ _ hx hy dl el rfl rfl (fun z => ?_) (fun z2 => ?_)
  · have : same d e = false := by
      rcases he with ⟨rfl, _⟩ | ⟨rfl, _⟩ <;> cases d <;> first | rfl | exact absurd rfl z
    have k2 := k H (ex_refl _)
    rw [this] at k2
    exact k2
  show t_law_equal_7 K (n + 1) E D [some x, some (.ref b), u2, u3] H
  rcases he with ⟨rfl, hb⟩ | ⟨rfl, hb⟩
  · cases d with
    | list ds =>
      obtain ⟨a, xs, rfl, ha, da⟩ := dp_lst hx
      exact equal_8 (.inl ha) (.inl hb) da db h10 hok k
    | none => exact absurd z2 (show ¬ ("list" == "list") = ("NoneType" == "list") by decide +kernel)
    | bool _ => exact absurd z2 (show ¬ ("list" == "list") = ("bool" == "list") by decide +kernel)
    | int _ => exact absurd z2 (show ¬ ("list" == "list") = ("int" == "list") by decide +kernel)
    | str _ => exact absurd z2 (show ¬ ("list" == "list") = ("str" == "list") by decide +kernel)
    | tuple _ => exact absurd z2 (show ¬ ("list" == "list") = ("tuple" == "list") by decide +kernel)
    | dict _ => exact absurd z2 (show ¬ ("list" == "list") = ("dict" == "list") by decide +kernel)
  · cases d with
    | tuple ds =>
      obtain ⟨a, xs, rfl, ha, da⟩ := dp_tup hx
      exact equal_8 (.inr ha) (.inr hb) da db h10 hok k
    | none => exact absurd z1 (show ¬ ("tuple" == "tuple") = ("NoneType" == "tuple") by decide +kernel)
    | bool _ => exact absurd z1 (show ¬ ("tuple" == "tuple") = ("bool" == "tuple") by decide +kernel)
    | int _ => exact absurd z1 (show ¬ ("tuple" == "tuple") = ("int" == "tuple") by decide +kernel)
    | str _ => exact absurd z1 (show ¬ ("tuple" == "tuple") = ("str" == "tuple") by decide +kernel)
    | list _ => exact absurd z1 (show ¬ ("tuple" == "tuple") = ("list" == "tuple") by decide +kernel)
    | dict _ => exact absurd z1 (show ¬ ("tuple" == "tuple") = ("dict" == "tuple") by decide +kernel)
theorem pure_law_equal (ws : List V) (h : sp_law_equal (n + 1) K ws H Q E) : t_law_equal_0 K n E { nx := fun _ H' => Q .non H', rt := Q } (start ["_law_actual", "_law_expected", "_law_key", "_law_k"] ws) H := by
  unfold sp_law_equal at h
  obtain ⟨x, y, d, e, rfl, hx, hy, hok, k⟩ := h
  show t_law_equal_0 K n E _ [some x, some y, none, none] H
  unfold t_law_equal_0
  obtain ⟨db, di, ds, _, _, _⟩ := tyN_kit d
  have kk : ∀ r, same d e = r → Q (.bl r) H := fun r h => by
    rw [← h]
    exact k H (ex_refl _)
  cases e with
  | none =>
    cases hy
    refine if_go true (fun Q q => ⟨_, rfl, rfl, _, rfl, q⟩) (fun _ => ⟨_, rfl, rfl, kk _ ?_⟩) (fun z => nomatch z)
    cases hx <;> rfl
  | bool b =>
    cases hy
    refine if_go false (fun Q q => ⟨_, rfl, rfl, _, rfl, q⟩) (fun z => nomatch z) (fun _ => ?_)
    show t_law_equal_1 K n E { nx := fun _ H' => Q .non H', rt := Q } [some x, some (.bl b), none, none] H
    unfold t_law_equal_1
    refine kind_yes (.bl b) (show kitB "bool" "bool" = some true by decide +kernel) rfl ?_
    refine and_isi _ (same d (.bool b)) hx db rfl (fun z => ?_) (fun z Q q => ?_) (kk _ rfl)
    · cases d <;> first | rfl | exact absurd z (show ¬ ("bool" == "bool") = false by decide +kernel)
    · cases d with
      | bool c =>
        cases hx
        refine ⟨_, rfl, _, rfl, rfl, ?_⟩
        rw [d_bl]
        exact q
      | none => exact absurd z (show ¬ ("NoneType" == "bool") = true by decide +kernel)
      | int _ => exact absurd z (show ¬ ("int" == "bool") = true by decide +kernel)
      | str _ => exact absurd z (show ¬ ("str" == "bool") = true by decide +kernel)
      | list _ => exact absurd z (show ¬ ("list" == "bool") = true by decide +kernel)
      | tuple _ => exact absurd z (show ¬ ("tuple" == "bool") = true by decide +kernel)
      | dict _ => exact absurd z (show ¬ ("dict" == "bool") = true by decide +kernel)
  | int b =>
    cases hy
    refine if_go false (fun Q q => ⟨_, rfl, rfl, _, rfl, q⟩) (fun z => nomatch z) (fun _ => ?_)
    show t_law_equal_1 K n E { nx := fun _ H' => Q .non H', rt := Q } [some x, some (.int b), none, none] H
    unfold t_law_equal_1
    refine kind_no (.int b) (show kitB "int" "bool" = some false by decide +kernel) rfl ?_
    show t_law_equal_2 K n E { nx := fun _ H' => Q .non H', rt := Q } [some x, some (.int b), none, none] H
    unfold t_law_equal_2
    refine kind_yes (.int b) (show kitB "int" "int" = some true by decide +kernel) rfl ?_
    cases d with
    | int c =>
      cases hx
      refine and_isi true (decide (c = b)) (.int c) (show kitB "int" "int" = some true by decide +kernel) rfl (fun z => nomatch z) (fun _ Q q => andV_go true (decide (c = b)) (fun Q q => isiD_go (Q := fun x H1 => ∃ c, x = .bl c ∧ Q (.bl (!c)) H1) false (.int c) (show kitB "int" "bool" = some false by decide +kernel) rfl ⟨false, rfl, q⟩) (fun _ Q q => ⟨_, rfl, _, rfl, rfl, ?_⟩) q) (kk _ rfl)
      rw [d_int]
      exact q
    | bool c =>
      refine and_isi true false hx (show kitB "bool" "int" = some true by decide +kernel) rfl (fun z => nomatch z) (fun _ Q q => andV_go false false (fun Q q => isiD_go (Q := fun x H1 => ∃ c, x = .bl c ∧ Q (.bl (!c)) H1) true hx (show kitB "bool" "bool" = some true by decide +kernel) rfl ⟨true, rfl, q⟩) (fun z => nomatch z) q) (kk _ rfl)
    | none => exact and_isi false false hx (show kitB "NoneType" "int" = some false by decide +kernel) rfl (fun _ => rfl) (fun z => nomatch z) (kk _ rfl)
    | str _ => exact and_isi false false hx (show kitB "str" "int" = some false by decide +kernel) rfl (fun _ => rfl) (fun z => nomatch z) (kk _ rfl)
    | list _ => exact and_isi false false hx (show kitB "list" "int" = some false by decide +kernel) rfl (fun _ => rfl) (fun z => nomatch z) (kk _ rfl)
    | tuple _ => exact and_isi false false hx (show kitB "tuple" "int" = some false by decide +kernel) rfl (fun _ => rfl) (fun z => nomatch z) (kk _ rfl)
    | dict _ => exact and_isi false false hx (show kitB "dict" "int" = some false by decide +kernel) rfl (fun _ => rfl) (fun z => nomatch z) (kk _ rfl)
  | str b =>
    cases hy
    refine if_go false (fun Q q => ⟨_, rfl, rfl, _, rfl, q⟩) (fun z => nomatch z) (fun _ => ?_)
    show t_law_equal_1 K n E { nx := fun _ H' => Q .non H', rt := Q } [some x, some (.str b), none, none] H
    unfold t_law_equal_1
    refine kind_no (.str b) (show kitB "str" "bool" = some false by decide +kernel) rfl ?_
    show t_law_equal_2 K n E { nx := fun _ H' => Q .non H', rt := Q } [some x, some (.str b), none, none] H
    unfold t_law_equal_2
    refine kind_no (.str b) (show kitB "str" "int" = some false by decide +kernel) rfl ?_
    show t_law_equal_3 K n E { nx := fun _ H' => Q .non H', rt := Q } [some x, some (.str b), none, none] H
    unfold t_law_equal_3
    refine kind_yes (.str b) (show kitB "str" "str" = some true by decide +kernel) rfl ?_
    cases d with
    | str c =>
      cases hx
      refine and_isi true (decide (c = b)) (.str c) (show kitB "str" "str" = some true by decide +kernel) rfl (fun z => nomatch z) (fun _ Q q => ⟨_, rfl, _, rfl, rfl, ?_⟩) (kk _ rfl)
      rw [d_str]
      exact q
    | none => exact and_isi false false hx (show kitB "NoneType" "str" = some false by decide +kernel) rfl (fun _ => rfl) (fun z => nomatch z) (kk _ rfl)
    | bool _ => exact and_isi false false hx (show kitB "bool" "str" = some false by decide +kernel) rfl (fun _ => rfl) (fun z => nomatch z) (kk _ rfl)
    | int _ => exact and_isi false false hx (show kitB "int" "str" = some false by decide +kernel) rfl (fun _ => rfl) (fun z => nomatch z) (kk _ rfl)
    | list _ => exact and_isi false false hx (show kitB "list" "str" = some false by decide +kernel) rfl (fun _ => rfl) (fun z => nomatch z) (kk _ rfl)
    | tuple _ => exact and_isi false false hx (show kitB "tuple" "str" = some false by decide +kernel) rfl (fun _ => rfl) (fun z => nomatch z) (kk _ rfl)
    | dict _ => exact and_isi false false hx (show kitB "dict" "str" = some false by decide +kernel) rfl (fun _ => rfl) (fun z => nomatch z) (kk _ rfl)
  | list es =>
    obtain ⟨b, ys, rfl, hb, dy⟩ := dp_lst (id hy)
    cases n with
    | zero => exact hok.elim
    | succ n =>
      refine if_go false (fun Q q => ⟨_, rfl, rfl, _, rfl, q⟩) (fun z => nomatch z) (fun _ => ?_)
      show t_law_equal_1 K (n + 1) E { nx := fun _ H' => Q .non H', rt := Q } [some x, some (.ref b), none, none] H
      unfold t_law_equal_1
      refine kind_no hy (show kitB "list" "bool" = some false by decide +kernel) rfl ?_
      show t_law_equal_2 K (n + 1) E { nx := fun _ H' => Q .non H', rt := Q } [some x, some (.ref b), none, none] H
      unfold t_law_equal_2
      refine kind_no hy (show kitB "list" "int" = some false by decide +kernel) rfl ?_
      show t_law_equal_3 K (n + 1) E { nx := fun _ H' => Q .non H', rt := Q } [some x, some (.ref b), none, none] H
      unfold t_law_equal_3
      refine kind_no hy (show kitB "list" "str" = some false by decide +kernel) rfl ?_
      show t_law_equal_4 K (n + 1) E { nx := fun _ H' => Q .non H', rt := Q } [some x, some (.ref b), none, none] H
      unfold t_law_equal_4
      refine kind_no hy (show kitB "list" "dict" = some false by decide +kernel) rfl ?_
      exact equal_5 hx (.inl ⟨rfl, hb⟩) dy hok.1 hok.2 k
  | tuple es =>
    obtain ⟨b, ys, rfl, hb, dy⟩ := dp_tup (id hy)
    cases n with
    | zero => exact hok.elim
    | succ n =>
      refine if_go false (fun Q q => ⟨_, rfl, rfl, _, rfl, q⟩) (fun z => nomatch z) (fun _ => ?_)
      show t_law_equal_1 K (n + 1) E { nx := fun _ H' => Q .non H', rt := Q } [some x, some (.ref b), none, none] H
      unfold t_law_equal_1
      refine kind_no hy (show kitB "tuple" "bool" = some false by decide +kernel) rfl ?_
      show t_law_equal_2 K (n + 1) E { nx := fun _ H' => Q .non H', rt := Q } [some x, some (.ref b), none, none] H
      unfold t_law_equal_2
      refine kind_no hy (show kitB "tuple" "int" = some false by decide +kernel) rfl ?_
      show t_law_equal_3 K (n + 1) E { nx := fun _ H' => Q .non H', rt := Q } [some x, some (.ref b), none, none] H
      unfold t_law_equal_3
      refine kind_no hy (show kitB "tuple" "str" = some false by decide +kernel) rfl ?_
      show t_law_equal_4 K (n + 1) E { nx := fun _ H' => Q .non H', rt := Q } [some x, some (.ref b), none, none] H
      unfold t_law_equal_4
      refine kind_no hy (show kitB "tuple" "dict" = some false by decide +kernel) rfl ?_
      exact equal_5 hx (.inr ⟨rfl, hb⟩) dy hok.1 hok.2 k
  | dict es => cases hy
end

end Z
namespace Z
open PySem PySem.Spec PyProof.Rows L2
local macro_rules | `(tactic| walk_at "look") => `(tactic| first | assumption | exact upd_same | exact SqL.of (by assumption) | exact SqT.of (by assumption) | exact SqL.of upd_same | exact SqT.of upd_same)
local macro_rules | `(tactic| walk_at "at") => `(tactic| first | exact at0 | exact at1 | exact at2 | exact at3 | exact ix0 | exact ix1 | assumption | exact atI_nat (by rfl))
local macro_rules | `(tactic| walk_at "sd") => `(tactic| ((try dsimp only); first | assumption | omega | (unfold CMul; omega) | (unfold CDiv; omega) | (unfold CPow; decide) | decide))
local macro_rules | `(tactic| walk_at "st") => `(tactic| first
  | (refine ⟨_, rfl, ?_⟩)
  | (refine ⟨_, _, rfl, rfl, ?_⟩)
  | (refine ⟨rfl, ?_⟩)
  | (refine .inl ⟨_, rfl, ?_⟩)
  | (refine ⟨_, _, _, _, rfl, rfl, (by walk_at "look"), (by walk_at "at"), ?_⟩)
  | (refine ⟨_, _, rfl, .inl (by walk_at "look"), ?_⟩)
  | (refine And.intro (by walk_at "sd") ?_)
  | fail "no step")
local macro_rules | `(tactic| walk_at "go") => `(tactic| repeat' (walk_at "st"))
local macro_rules | `(tactic| walk_at "ans") => `(tactic| (intro Q q; (repeat' (walk_at "st")); exact q))
def t_law_equalH_0a_0 (K : PySem.W.Frag) (n : Nat) (E : XK) : TS := (tRet (tOp oIsN (tVar 0) (tC .non)))

def t_law_equalH_1a_0 (K : PySem.W.Frag) (n : Nat) (E : XK) : TS := (tRet (tAndV (tCB (rIsi K) (tCons (tVar 0) (tCons (tC (.ty "bool")) tNil))) (tOp rEq (tVar 0) (tVar 1))))

def t_law_equalH_2a_0 (K : PySem.W.Frag) (n : Nat) (E : XK) : TS := (tRet (tAndV (tCB (rIsi K) (tCons (tVar 0) (tCons (tC (.ty "int")) tNil))) (tAndV (tNotV (tCB (rIsi K) (tCons (tVar 0) (tCons (tC (.ty "bool")) tNil)))) (tOp rEq (tVar 0) (tVar 1)))))

def t_law_equalH_3a_0 (K : PySem.W.Frag) (n : Nat) (E : XK) : TS := (tRet (tAndV (tCB (rIsi K) (tCons (tVar 0) (tCons (tC (.ty "str")) tNil))) (tOp rEq (tVar 0) (tVar 1))))

def t_law_equalH_4a_1 (K : PySem.W.Frag) (n : Nat) (E : XK) : TS := tNever

@[irreducible] def t_law_equalH_4a_0 (K : PySem.W.Frag) (n : Nat) (E : XK) : TS := tSeq tNever (t_law_equalH_4a_1 K n E)

def t_law_equalH_5a_0 (K : PySem.W.Frag) (n : Nat) (E : XK) : TS := (tRet (tC (.bl false)))

def t_law_equalH_6a_0 (K : PySem.W.Frag) (n : Nat) (E : XK) : TS := (tRet (tC (.bl false)))

def t_law_equalH_7a_0 (K : PySem.W.Frag) (n : Nat) (E : XK) : TS := (tRet (tC (.bl false)))

def t_law_equalH_8 (K : PySem.W.Frag) (n : Nat) (E : XK) : TS := (tRet (tCB (rAll K) (tCons (tLc (iRng1 (tCons (tCB (cLen K) (tCons (tVar 1) tNil)) tNil)) (gName 3) tYes (tCall (sp_law_equal n K) [] E0 (tCons (tOp (rIxA K) (tVar 0) (tVar 3)) (tCons (tOp (rIxA K) (tVar 1) (tVar 3)) tNil))) [3]) tNil)))

@[irreducible] def t_law_equalH_7 (K : PySem.W.Frag) (n : Nat) (E : XK) : TS := tSeq (tIfS (tTest (tOp rNe (tCB (cLen K) (tCons (tVar 0) tNil)) (tCB (cLen K) (tCons (tVar 1) tNil))))
    (t_law_equalH_7a_0 K n E) tNext) (t_law_equalH_8 K n E)

@[irreducible] def t_law_equalH_6 (K : PySem.W.Frag) (n : Nat) (E : XK) : TS := tSeq (tIfS (tTest (tOp rNe (tCB (rIsi K) (tCons (tVar 1) (tCons (tC (.ty "list")) tNil))) (tCB (rIsi K) (tCons (tVar 0) (tCons (tC (.ty "list")) tNil)))))
    (t_law_equalH_6a_0 K n E) tNext) (t_law_equalH_7 K n E)

@[irreducible] def t_law_equalH_5 (K : PySem.W.Frag) (n : Nat) (E : XK) : TS := tSeq (tIfS (tTest (tOp rNe (tCB (rIsi K) (tCons (tVar 1) (tCons (tC (.ty "tuple")) tNil))) (tCB (rIsi K) (tCons (tVar 0) (tCons (tC (.ty "tuple")) tNil)))))
    (t_law_equalH_5a_0 K n E) tNext) (t_law_equalH_6 K n E)

@[irreducible] def t_law_equalH_4 (K : PySem.W.Frag) (n : Nat) (E : XK) : TS := tSeq (tIfS (tB (tCB (rIsi K) (tCons (tVar 1) (tCons (tC (.ty "dict")) tNil))))
    (t_law_equalH_4a_0 K n E) tNext) (t_law_equalH_5 K n E)

@[irreducible] def t_law_equalH_3 (K : PySem.W.Frag) (n : Nat) (E : XK) : TS := tSeq (tIfS (tB (tCB (rIsi K) (tCons (tVar 1) (tCons (tC (.ty "str")) tNil))))
    (t_law_equalH_3a_0 K n E) tNext) (t_law_equalH_4 K n E)

@[irreducible] def t_law_equalH_2 (K : PySem.W.Frag) (n : Nat) (E : XK) : TS := tSeq (tIfS (tB (tCB (rIsi K) (tCons (tVar 1) (tCons (tC (.ty "int")) tNil))))
    (t_law_equalH_2a_0 K n E) tNext) (t_law_equalH_3 K n E)

@[irreducible] def t_law_equalH_1 (K : PySem.W.Frag) (n : Nat) (E : XK) : TS := tSeq (tIfS (tB (tCB (rIsi K) (tCons (tVar 1) (tCons (tC (.ty "bool")) tNil))))
    (t_law_equalH_1a_0 K n E) tNext) (t_law_equalH_2 K n E)

@[irreducible] def t_law_equalH_0 (K : PySem.W.Frag) (n : Nat) (E : XK) : TS := tSeq (tIfS (tTest (tOp oIsN (tVar 1) (tC .non)))
    (t_law_equalH_0a_0 K n E) tNext) (t_law_equalH_1 K n E)
section
variable {K : PySem.W.Frag} {E : XK} {n : Nat} {H : Hp} {Q : VK}
theorem equal_8H {D : Ends} {a b : Addr} {u2 u3 : Option V} {xs ys : List V} {ds es : List PyData} (ha : SqL K H a xs ∨ SqT K H a xs) (hb : SqL K H b ys ∨ SqT K H b ys) (da : DpAll K H xs ds) (db : DpAll K H ys es)
    (h10 : es.length ≤ 10000) (hok : ∀ d ∈ es, okD n d) (k : ∀ H', Ex H H' → D.rt (.bl (sameA ds es)) H') : t_law_equalH_7 K (n + 1) E D [some (.ref a), some (.ref b), u2, u3] H := by
  unfold t_law_equalH_7
  have la := dpa_len da
  have lb := dpa_len db
  refine if_go (!decide (ds.length = es.length)) (fun Q q => ?_) (fun c => ?_) (fun c => ?_)
  · refine ⟨_, rfl, a, xs, rfl, ha, _, rfl, b, ys, rfl, hb, rfl, _, rfl, ?_⟩
    rw [d_int, la, lb]
    have e : decide ((ds.length : Int) = (es.length : Int)) = decide (ds.length = es.length) := by
      by_cases h : ds.length = es.length
      · rw [decide_eq_true h, decide_eq_true (by omega)]
      · rw [decide_eq_false h, decide_eq_false (by omega)]
    rw [e]
    exact q
  · have h : ds.length ≠ es.length := fun z => by
      rw [decide_eq_true z] at c
      cases c
    have := k H (ex_refl _)
    rw [sameA_len h] at this
    exact this
  · have h : ds.length = es.length := by
      by_cases z : ds.length = es.length
      · exact z
      · rw [decide_eq_false z] at c
        cases c
    have h10000 : (10000 : Nat) < sizeLine := by decide
    refine ⟨_, rfl, b, ys, rfl, hb, _, rfl, by omega, by omega, fun p hp => lc_map walk_range (fun i => .bl (same (ds.getD i .none) (es.getD i .none))) hp (by omega) (fun _ _ => trivial) ?_ ?_⟩
    · rintro i x H3 H4 hi e ⟨rfl, rfl⟩ Q Zf q
      have hi2 : i < es.length := by omega
      have e0 : (0 : Int) + (i : Int) = ((i : Nat) : Int) := by omega
      refine ⟨rfl, iteT (B := Zf H4) ?_⟩
      refine ⟨_, rfl, _, rfl, ?_⟩
      have ha4 : SqL K H4 a xs ∨ SqT K H4 a xs := ha.imp (sq_ex e) (sqt_ex e)
      have hb4 : SqL K H4 b ys ∨ SqT K H4 b ys := hb.imp (sq_ex e) (sqt_ex e)
      refine ixA_go e0 ha4 (dpa_ex e da) (by omega) fun v hv => ⟨_, rfl, _, rfl, ?_⟩
      refine ixA_go e0 hb4 (dpa_ex e db) hi2 fun w hw => ?_
      unfold sp_law_equal
      refine ⟨v, w, _, _, rfl, hv, hw, hok _ ?_, fun H5 e5 => q H5 e5⟩
      exact List.mem_of_getElem? (getD_at (d := PyData.none) hi2)
    · intro H3 e h3
      refine ⟨p, ((List.range es.length).map fun i => same (ds.getD i .none) (es.getD i .none)), rfl, ?_, ?_⟩
      · have e5 : ((ys.length : Int)).toNat = es.length := by omega
        rw [e5] at h3
        rw [List.map_map]
        exact SqL.of h3
      · rw [← sameA_all h]
        exact k H3 e
theorem equal_5H {D : Ends} {x : V} {b : Addr} {u2 u3 : Option V} {d e : PyData} {ys : List V} {es : List PyData} (hx : Dp K H x d) (he : (e = .list es ∧ SqL K H b ys) ∨ (e = .tuple es ∧ SqT K H b ys)) (db : DpAll K H ys es)
    (h10 : es.length ≤ 10000) (hok : ∀ d ∈ es, okD n d) (k : ∀ H', Ex H H' → D.rt (.bl (same d e)) H') : t_law_equalH_5 K (n + 1) E D [some x, some (.ref b), u2, u3] H := by
  have hy : Dp K H (.ref b) e := by
    rcases he with ⟨rfl, h⟩ | ⟨rfl, h⟩
    · exact .lst h db
    · exact .tup h db
  obtain ⟨_, _, _, _, dt, dl⟩ := tyN_kit d
  obtain ⟨_, _, _, _, et, el⟩ := tyN_kit e
  unfold t_law_equalH_5
  refine kind_ne _ _ hx hy dt et rfl rfl (fun z => ?_) (fun z1 => ?_)
  · have : same d e = false := by
      rcases he with ⟨rfl, _⟩ | ⟨rfl, _⟩ <;> cases d <;> first | rfl | exact absurd rfl z
    have k2 := k H (ex_refl _)
    rw [this] at k2
    exact k2
  show t_law_equalH_6 K (n + 1) E D [some x, some (.ref b), u2, u3] H
  unfold t_law_equalH_6
  refine kind_ne _ _ hx hy dl el rfl rfl (fun z => ?_) (fun z2 => ?_)
  · have : same d e = false := by
      rcases he with ⟨rfl, _⟩ | ⟨rfl, _⟩ <;> cases d <;> first | rfl | exact absurd rfl z
    have k2 := k H (ex_refl _)
    rw [this] at k2
    exact k2
  show t_law_equalH_7 K (n + 1) E D [some x, some (.ref b), u2, u3] H
  rcases he with ⟨rfl, hb⟩ | ⟨rfl, hb⟩
  · cases d with
    | list ds =>
      obtain ⟨a, xs, rfl, ha, da⟩ := dp_lst hx
      exact equal_8H (.inl ha) (.inl hb) da db h10 hok k
    | none => exact absurd z2 (show ¬ ("list" == "list") = ("NoneType" == "list") by decide +kernel)
    | bool _ => exact absurd z2 (show ¬ ("list" == "list") = ("bool" == "list") by decide +kernel)
    | int _ => exact absurd z2 (show ¬ ("list" == "list") = ("int" == "list") by decide +kernel)
    | str _ => exact absurd z2 (show ¬ ("list" == "list") = ("str" == "list") by decide +kernel)
    | tuple _ => exact absurd z2 (show ¬ ("list" == "list") = ("tuple" == "list") by decide +kernel)
    | dict _ => exact absurd z2 (show ¬ ("list" == "list") = ("dict" == "list") by decide +kernel)
  · cases d with
    | tuple ds =>
      obtain ⟨a, xs, rfl, ha, da⟩ := dp_tup hx
      exact equal_8H (.inr ha) (.inr hb) da db h10 hok k
    | none => exact absurd z1 (show ¬ ("tuple" == "tuple") = ("NoneType" == "tuple") by decide +kernel)
    | bool _ => exact absurd z1 (show ¬ ("tuple" == "tuple") = ("bool" == "tuple") by decide +kernel)
    | int _ => exact absurd z1 (show ¬ ("tuple" == "tuple") = ("int" == "tuple") by decide +kernel)
    | str _ => exact absurd z1 (show ¬ ("tuple" == "tuple") = ("str" == "tuple") by decide +kernel)
    | list _ => exact absurd z1 (show ¬ ("tuple" == "tuple") = ("list" == "tuple") by decide +kernel)
    | dict _ => exact absurd z1 (show ¬ ("tuple" == "tuple") = ("dict" == "tuple") by decide +kernel)
theorem pure_law_equalH (ws : List V) (h : sp_law_equal (n + 1) K ws H Q E) : t_law_equalH_0 K n E { nx := fun _ H' => Q .non H', rt := Q } (start ["_law_actual", "_law_expected", "_law_key", "_law_k"] ws) H := by
  unfold sp_law_equal at h
  obtain ⟨x, y, d, e, rfl, hx, hy, hok, k⟩ := h
  show t_law_equalH_0 K n E _ [some x, some y, none, none] H
  unfold t_law_equalH_0
  obtain ⟨db, di, ds, _, _, _⟩ := tyN_kit d
  have kk : ∀ r, same d e = r → Q (.bl r) H := fun r h => by
    rw [← h]
    exact k H (ex_refl _)
  cases e with
  | none =>
    cases hy
    refine if_go true (fun Q q => ⟨_, rfl, rfl, _, rfl, q⟩) (fun _ => ⟨_, rfl, rfl, kk _ ?_⟩) (fun z => nomatch z)
    cases hx <;> rfl
  | bool b =>
    cases hy
    refine if_go false (fun Q q => ⟨_, rfl, rfl, _, rfl, q⟩) (fun z => nomatch z) (fun _ => ?_)
    show t_law_equalH_1 K n E { nx := fun _ H' => Q .non H', rt := Q } [some x, some (.bl b), none, none] H
    unfold t_law_equalH_1
    refine kind_yes (.bl b) (show kitB "bool" "bool" = some true by decide +kernel) rfl ?_
    refine and_isi _ (same d (.bool b)) hx db rfl (fun z => ?_) (fun z Q q => ?_) (kk _ rfl)
    · cases d <;> first | rfl | exact absurd z (show ¬ ("bool" == "bool") = false by decide +kernel)
    · cases d with
      | bool c =>
        cases hx
        refine ⟨_, rfl, _, rfl, rfl, ?_⟩
        rw [d_bl]
        exact q
      | none => exact absurd z (show ¬ ("NoneType" == "bool") = true by decide +kernel)
      | int _ => exact absurd z (show ¬ ("int" == "bool") = true by decide +kernel)
      | str _ => exact absurd z (show ¬ ("str" == "bool") = true by decide +kernel)
      | list _ => exact absurd z (show ¬ ("list" == "bool") = true by decide +kernel)
      | tuple _ => exact absurd z (show ¬ ("tuple" == "bool") = true by decide +kernel)
      | dict _ => exact absurd z (show ¬ ("dict" == "bool") = true by decide +kernel)
  | int b =>
    cases hy
    refine if_go false (fun Q q => ⟨_, rfl, rfl, _, rfl, q⟩) (fun z => nomatch z) (fun _ => ?_)
    show t_law_equalH_1 K n E { nx := fun _ H' => Q .non H', rt := Q } [some x, some (.int b), none, none] H
    unfold t_law_equalH_1
    refine kind_no (.int b) (show kitB "int" "bool" = some false by decide +kernel) rfl ?_
    show t_law_equalH_2 K n E { nx := fun _ H' => Q .non H', rt := Q } [some x, some (.int b), none, none] H
    unfold t_law_equalH_2
    refine kind_yes (.int b) (show kitB "int" "int" = some true by decide +kernel) rfl ?_
    cases d with
    | int c =>
      cases hx
      refine and_isi true (decide (c = b)) (.int c) (show kitB "int" "int" = some true by decide +kernel) rfl (fun z => nomatch z) (fun _ Q q => andV_go true (decide (c = b)) (fun Q q => isiD_go (Q := fun x H1 => ∃ c, x = .bl c ∧ Q (.bl (!c)) H1) false (.int c) (show kitB "int" "bool" = some false by decide +kernel) rfl ⟨false, rfl, q⟩) (fun _ Q q => ⟨_, rfl, _, rfl, rfl, ?_⟩) q) (kk _ rfl)
      rw [d_int]
      exact q
    | bool c =>
      refine and_isi true false hx (show kitB "bool" "int" = some true by decide +kernel) rfl (fun z => nomatch z) (fun _ Q q => andV_go false false (fun Q q => isiD_go (Q := fun x H1 => ∃ c, x = .bl c ∧ Q (.bl (!c)) H1) true hx (show kitB "bool" "bool" = some true by decide +kernel) rfl ⟨true, rfl, q⟩) (fun z => nomatch z) q) (kk _ rfl)
    | none => exact and_isi false false hx (show kitB "NoneType" "int" = some false by decide +kernel) rfl (fun _ => rfl) (fun z => nomatch z) (kk _ rfl)
    | str _ => exact and_isi false false hx (show kitB "str" "int" = some false by decide +kernel) rfl (fun _ => rfl) (fun z => nomatch z) (kk _ rfl)
    | list _ => exact and_isi false false hx (show kitB "list" "int" = some false by decide +kernel) rfl (fun _ => rfl) (fun z => nomatch z) (kk _ rfl)
    | tuple _ => exact and_isi false false hx (show kitB "tuple" "int" = some false by decide +kernel) rfl (fun _ => rfl) (fun z => nomatch z) (kk _ rfl)
    | dict _ => exact and_isi false false hx (show kitB "dict" "int" = some false by decide +kernel) rfl (fun _ => rfl) (fun z => nomatch z) (kk _ rfl)
  | str b =>
    cases hy
    refine if_go false (fun Q q => ⟨_, rfl, rfl, _, rfl, q⟩) (fun z => nomatch z) (fun _ => ?_)
    show t_law_equalH_1 K n E { nx := fun _ H' => Q .non H', rt := Q } [some x, some (.str b), none, none] H
    unfold t_law_equalH_1
    refine kind_no (.str b) (show kitB "str" "bool" = some false by decide +kernel) rfl ?_
    show t_law_equalH_2 K n E { nx := fun _ H' => Q .non H', rt := Q } [some x, some (.str b), none, none] H
    unfold t_law_equalH_2
    refine kind_no (.str b) (show kitB "str" "int" = some false by decide +kernel) rfl ?_
    show t_law_equalH_3 K n E { nx := fun _ H' => Q .non H', rt := Q } [some x, some (.str b), none, none] H
    unfold t_law_equalH_3
    refine kind_yes (.str b) (show kitB "str" "str" = some true by decide +kernel) rfl ?_
    cases d with
    | str c =>
      cases hx
      refine and_isi true (decide (c = b)) (.str c) (show kitB "str" "str" = some true by decide +kernel) rfl (fun z => nomatch z) (fun _ Q q => ⟨_, rfl, _, rfl, rfl, ?_⟩) (kk _ rfl)
      rw [d_str]
      exact q
    | none => exact and_isi false false hx (show kitB "NoneType" "str" = some false by decide +kernel) rfl (fun _ => rfl) (fun z => nomatch z) (kk _ rfl)
    | bool _ => exact and_isi false false hx (show kitB "bool" "str" = some false by decide +kernel) rfl (fun _ => rfl) (fun z => nomatch z) (kk _ rfl)
    | int _ => exact and_isi false false hx (show kitB "int" "str" = some false by decide +kernel) rfl (fun _ => rfl) (fun z => nomatch z) (kk _ rfl)
    | list _ => exact and_isi false false hx (show kitB "list" "str" = some false by decide +kernel) rfl (fun _ => rfl) (fun z => nomatch z) (kk _ rfl)
    | tuple _ => exact and_isi false false hx (show kitB "tuple" "str" = some false by decide +kernel) rfl (fun _ => rfl) (fun z => nomatch z) (kk _ rfl)
    | dict _ => exact and_isi false false hx (show kitB "dict" "str" = some false by decide +kernel) rfl (fun _ => rfl) (fun z => nomatch z) (kk _ rfl)
  | list es =>
    obtain ⟨b, ys, rfl, hb, dy⟩ := dp_lst (id hy)
    cases n with
    | zero => exact hok.elim
    | succ n =>
      refine if_go false (fun Q q => ⟨_, rfl, rfl, _, rfl, q⟩) (fun z => nomatch z) (fun _ => ?_)
      show t_law_equalH_1 K (n + 1) E { nx := fun _ H' => Q .non H', rt := Q } [some x, some (.ref b), none, none] H
      unfold t_law_equalH_1
      refine kind_no hy (show kitB "list" "bool" = some false by decide +kernel) rfl ?_
      show t_law_equalH_2 K (n + 1) E { nx := fun _ H' => Q .non H', rt := Q } [some x, some (.ref b), none, none] H
      unfold t_law_equalH_2
      refine kind_no hy (show kitB "list" "int" = some false by decide +kernel) rfl ?_
      show t_law_equalH_3 K (n + 1) E { nx := fun _ H' => Q .non H', rt := Q } [some x, some (.ref b), none, none] H
      unfold t_law_equalH_3
      refine kind_no hy (show kitB "list" "str" = some false by decide +kernel) rfl ?_
      show t_law_equalH_4 K (n + 1) E { nx := fun _ H' => Q .non H', rt := Q } [some x, some (.ref b), none, none] H
      unfold t_law_equalH_4
      refine kind_no hy (show kitB "list" "dict" = some false by decide +kernel) rfl ?_
      exact equal_5H hx (.inl ⟨rfl, hb⟩) dy hok.1 hok.2 k
  | tuple es =>
    obtain ⟨b, ys, rfl, hb, dy⟩ := dp_tup (id hy)
    cases n with
    | zero => exact hok.elim
    | succ n =>
      refine if_go false (fun Q q => ⟨_, rfl, rfl, _, rfl, q⟩) (fun z => nomatch z) (fun _ => ?_)
      show t_law_equalH_1 K (n + 1) E { nx := fun _ H' => Q .non H', rt := Q } [some x, some (.ref b), none, none] H
      unfold t_law_equalH_1
      refine kind_no hy (show kitB "tuple" "bool" = some false by decide +kernel) rfl ?_
      show t_law_equalH_2 K (n + 1) E { nx := fun _ H' => Q .non H', rt := Q } [some x, some (.ref b), none, none] H
      unfold t_law_equalH_2
      refine kind_no hy (show kitB "tuple" "int" = some false by decide +kernel) rfl ?_
      show t_law_equalH_3 K (n + 1) E { nx := fun _ H' => Q .non H', rt := Q } [some x, some (.ref b), none, none] H
      unfold t_law_equalH_3
      refine kind_no hy (show kitB "tuple" "str" = some false by decide +kernel) rfl ?_
      show t_law_equalH_4 K (n + 1) E { nx := fun _ H' => Q .non H', rt := Q } [some x, some (.ref b), none, none] H
      unfold t_law_equalH_4
      refine kind_no hy (show kitB "tuple" "dict" = some false by decide +kernel) rfl ?_
      exact equal_5H hx (.inr ⟨rfl, hb⟩) dy hok.1 hok.2 k
  | dict es => cases hy
end


end Z
/-! An error in hand: handed on to defs within an except suite, asked for its class and its field there. -/
namespace Z
open PySem PySem.Spec PyProof.Rows L2
/-! ### errors whose context is None, made and raised -/
section
variable {X : Cx}
theorem pmk_own0N {x : Str} {p pos : Pos} (T : XcK X.K X.mg x) (hg : Gl X x) (hdb : (x == ("__debug__" : Str)) = false := by decide) :
    L2N.PMk X (.Call (.Name x p) [] [] pos) (fun _ H Q => Q (.ref (He.ga X.K x)) none H) := by
  intro pins s σ H Q I h
  refine wpAny_Call_Name_kw (ld_glob I hg T.g ?_ hdb)
  refine PySem.W.callWith_K0 I.kIn T.kp ?_
  show wpAny _ _ (call (.ref (He.ga X.K x)) []) _ _ _
  obtain ⟨bm, N, nm, qn, bs, hdct, sn, sub, ab, col, dd, k0, k1, k2, k3, k5, mN, hC, hN, hni, T2⟩ := exc_obj I.kIn T.m
  exact wpAny_call_exc_subT F.excBase_ValueError T2 hC hN hni (fun h' e hm => L2N.mk_of I hm (raises_own T.sb T.ty) h (I.hok.gone hm.new)) (Nat.zero_le _)
variable {x fld : Str} {k j : Nat} {e : Expr} {es : List Expr} {ta : TA} {p pos : Pos}
theorem pmk_fldN (c : XsK X.prog X.w X.K X.mg X.base k x fld) (hr : Room j X.A) (hk : k + 1 ≤ j) (hg : Gl X x) (ha : PA X (e :: es) ta)
    (hdb : (x == ("__debug__" : Str)) = false := by decide) (he : starEach (e :: es) X.env = (false, eval e X.env) :: starEach es X.env := by rfl) (hpl : (backTo pos (starEach es X.env)).any (·.1) = false := by rfl) :
    L2N.PMk X (.Call (.Name x p) (e :: es) [] pos) (tMkO (He.ga X.K x) (spSup (He.ga X.K x) fld) [] ta) := by
  obtain ⟨fI, cc, fd, ps, SC, F1, hb, hm⟩ := c.ex
  have T := SC.x
  have hr2 : Room (k + 1) X.A := hr.mono hk
  intro pins s σ H Q I h
  obtain ⟨nm, q, N, bs, bm, sn, sub, ab, col, dd, k0, k1, k2, k3, k5, hC, hbm⟩ := T.cls
  refine wpAny_Call_Name_kw (ld_glob I hg hm ?_ hdb)
  refine PySem.W.callWith_K (h₀ := X.base) I.ok.mod.kin T.kC (thn (ha.run pos pins s σ H _ I h) fun us s1 ⟨vs, H1, I1, r1, hz, q1⟩ => ⟨I1.kIn, ?_⟩) he hpl
  show wpAny _ _ (call (.ref (He.ga X.K x)) us) _ _ _
  obtain ⟨hp, g, dr, tk, os⟩ := s1
  have sz : hp.objs.size ≤ (hp.objs.size + 1) := Nat.le_succ _
  have kk : ∀ b o, hp.get? b = some o → ((hp.push (PySem.W.kdv_tup us)).push (PySem.HandSPX.excO (He.ga X.K x) hp.objs.size)).get? b = some o := fun b o e => Heap.get?_push_of_some _ (Heap.get?_push_of_some _ e)
  have got : ((hp.push (PySem.W.kdv_tup us)).push (PySem.HandSPX.excO (He.ga X.K x) hp.objs.size)).get? (hp.objs.size + 1) = some (PySem.HandSPX.excO (He.ga X.K x) hp.objs.size) := by
    heap_get
  have I2 : Inv X pins σ (upd H1 (hp.objs.size + 1) (exo (hp.objs.size + 1) (He.ga X.K x) none)) ⟨((hp.push (PySem.W.kdv_tup us)).push (PySem.HandSPX.excO (He.ga X.K x) hp.objs.size)), g, dr, tk, os⟩ := I1.laid (t' := tk) (a := (hp.objs.size + 1)) (o := exo (hp.objs.size + 1) (He.ga X.K x) none) (h' := ((hp.push (PySem.W.kdv_tup us)).push (PySem.HandSPX.excO (He.ga X.K x) hp.objs.size))) kk sz (exo_ok got)
  have hq := q1 (hp.objs.size + 1) (I1.hok.fresh sz)
  have r2 : Vals (V.ref (hp.objs.size + 1) :: (vs ++ [])) (Value.ref (hp.objs.size + 1) :: (us ++ [])) := .cons rfl (r1.append .nil)
  have hl : (Value.ref (hp.objs.size + 1) :: us ++ []).length = ps.length := by
    rw [← F1.len _ _ _ _ hq]
    exact r2.length.symm
  have hus : us.length ≤ sizeLine := by
    rw [← Paired.length r1, sizeLine_eq]
    omega
  refine wpAny_call (PySem.HandSPX.call_own F.excBase_ValueError (fun Y => PySem.HandSPX.refsVE_contains Y bm hbm) (I1.kIn _ _ hC) (PySem.W.looks_findIn I1.kIn SC.init) (fun self => PySem.W.bind_fn I1.kIn self SC.fn) hus
    (codeAny_mono (F1.run _ X.stack _ _ ⟨Value.ref (hp.objs.size + 1) :: us, []⟩ (Value.ref (hp.objs.size + 1) :: (us ++ [])) _ _ (fun _ _ _ => False) (hr2.make _ us []) (I2.env0.make _ us []) (by have z := hb _ (Value.ref (hp.objs.size + 1) :: us) I2.kIn hl; rw [List.append_nil] at z ⊢; exact z) r2 hq) fun r s' hq' => ?_))
  cases r with
  | error er => exact (passL pins σ _ _ er s' I2 hq' : X.xe er s')
  | ok fl =>
    cases fl with
    | ret u =>
      obtain ⟨v, H2, os2, bare2, un2, hok2, rv, ev, d, fs, ea2, ed, hd1, q2⟩ := hq'
      subst ev
      obtain ⟨h2, g2, d2, t2, os'⟩ := s'
      obtain ⟨t0, G, J, kG, ge, hoe, na⟩ := mk_end0 (d2 := d2) (t2 := t2) I1 sz kk un2 hok2 os2 bare2 ea2 ed hd1
      exact ⟨rv, hp.objs.size + 1, _, _, ⟨G, g2, d2, t2, os'⟩, _, .ref (He.ga X.K x), some d, rfl, J, kG, ge, hoe, ⟨rfl, rfl, fun vs e => by cases e; rfl⟩, rfl, rfl, na, rfl, bare2, raises_own T.exC T.tyC, q2⟩
    | next => exact False.elim hq'
    | brk => exact False.elim hq'
    | cont => exact False.elim hq'
end
/-- a def whose errors' context is None -/
structure ClN (P : Program) (w : World) (K : PySem.W.Frag) (mg : Str → Option Value) (base : Heap) (k : Nat) (x : Str) (sp : Sp) : Prop where
  ex : ∃ (f : Addr) (fd : FuncData) (ps : List Str), FnOk P w K mg base (L2N.CX P w) k f fd ps sp ∧ mg x = some (.ref f) ∧ PySem.W.keepIn K (.ref f) = true ∧ Binds K fd ps []
section
variable {P : Program} {w : World} {K : PySem.W.Frag} {mg : Str → Option Value} {base : Heap} {N : List Str} {qual : Str} {sc : Scope} {f : Addr} {cdv : Value} {A : Around} {outer : List Env} {s : Shared} {H : Hp} {E : XK}
theorem takesEN : L2N.Takes (cxOf (L2N.CX P w) P w K mg base N qual sc f cdv A outer s H E) (fun cls d _ H' => E cls d H') := L2N.takes_of rfl rfl rfl rfl
theorem clN_of {x : Str} {st : Stmt} {ps : List Str} {k : Nat} {sp : Sp} (F : ∃ fd, FnT K x x st [] f fd) (hm : mg x = some (.ref f)) (S : FnScope N ps (defScope st)) (len : ∀ vs H Q E, sp vs H Q E → vs.length = ps.length)
    (hb : ∀ (kV doc pm : Value) (an : Option Addr) (cdv ct : Value) (us : List Value), us.length = ps.length → bindArgs (PySem.W.fnOf x x (defArgs st) (defBody st) (defScope st) .none kV doc pm an cdv ct) ⟨us, []⟩ = pure (ps.zip us))
    (body : ∀ (cdv : Value) (A : Around) (outer : List Env) (s : Shared) (H : Hp) (vs : List V) (Q : VK) (E : XK), Room k (A.deeper (envOfC x (defScope st) s.heap.objs.size f cdv)) → sp vs H Q E →
      ∃ t, PSs (cxOf (L2N.CX P w) P w K mg base N x (defScope st) f cdv A outer s H E) (defBody st) t ∧ t { nx := fun _ H' => Q .non H', rt := Q } (start N vs) H) : ClN P w K mg base (k + 1) x sp := by
  obtain ⟨fd, F⟩ := F
  exact ⟨f, fd, ps, F.ok S len body, hm, F.kp, F.bindsN hb⟩
end
section
variable {X : Cx} {k j : Nat} {x : Str} {sp : Sp} {p pos : Pos} {e : Expr} {es : List Expr} {t : TA} {W : WX}
theorem pe_clN (c : ClN X.prog X.w X.K X.mg X.base k x sp) (hr : Room j X.A) (hk : k ≤ j) (hg : Gl X x) (tk : L2N.Takes X W) (ha : PA X (e :: es) t)
    (hdb : (x == ("__debug__" : Str)) = false := by decide) (he : starEach (e :: es) X.env = (false, eval e X.env) :: starEach es X.env := by rfl) (hpl : (backTo pos (starEach es X.env)).any (·.1) = false := by rfl) :
    PE X (.Call (.Name x p) (e :: es) [] pos) (tCallSD sp [] (WE W) t) := by
  obtain ⟨f, fd, ps, F, hm, kp, b⟩ := c.ex
  exact pe_callSD F (hr.mono hk) hg hm kp b .nil (fun σ => L2N.passAt tk σ) ha hdb he hpl
end
/-! ### the error in hand -/
/-- the error at a, of the class cls, its dict at d, is handled, and stands among the pins -/
def HotP (A : Around) (pn : List (Addr × Obj)) (a : Addr) (cls : Value) (d : Option Addr) : Prop := ∃ oe : Obj, L2H.Hot1 A (a, oe) ∧ (a, oe) ∈ pn ∧ Zc cls d oe
theorem HotP.c {X : Cx} {a : Addr} {cls : Value} {d : Option Addr} (h : HotP X.A X.pn a cls d) : L2H.HotC X := by
  obtain ⟨oe, h1, h2, _⟩ := h
  exact ⟨(a, oe), h1, h2⟩
theorem hot_suite {X : Cx} {a : Addr} {oe : Obj} {cls : Value} {d : Option Addr} {pn : List (Addr × Obj)} (hz : L2N.Zn cls d oe) (hv : ∃ vs, oe.data = .fields vs) : HotP (X.suite a ((a, oe) :: pn)).A (X.suite a ((a, oe) :: pn)).pn a cls d := by
  obtain ⟨vs, hv⟩ := hv
  exact ⟨oe, ⟨rfl, vs, hv, hz.2.2 vs hv⟩, List.mem_cons_self, hz.zc⟩
/-- what a def promises that is called there: its promise may lean on the error -/
abbrev SpE := Addr → Value → Option Addr → Sp
structure FnE (P : Program) (w : World) (K : PySem.W.Frag) (mg : Str → Option Value) (base : Heap) (k : Nat) (f : Addr) (fd : FuncData) (ps : List Str) (sp : SpE) : Prop where
  len : ∀ a cls d vs H Q E, sp a cls d vs H Q E → vs.length = ps.length
  run : ∀ (A : Around) (outer : List Env) (s : Shared) (H : Hp) (us : List Value) (vs : List V) (Q : VK) (E : XK) (p : Addr × Obj) (cls : Value) (d : Option Addr), L2H.RoomH k A → L2H.Hot1 A p → Zc cls d p.2 → L2H.PinOk outer H s p → Env0 P w K mg base A outer s H →
    BindsTo s fd ⟨us, []⟩ (ps.zip us) → Vals vs us → sp p.1 cls d vs H Q E → codeAny (model P w) A (.call (.ref f) ⟨us, []⟩) (CR (L2.CX P w) outer P w H s Q E) s
theorem FnE.mono {P : Program} {w : World} {K : PySem.W.Frag} {mg : Str → Option Value} {base : Heap} {k j : Nat} {f : Addr} {fd : FuncData} {ps : List Str} {sp : SpE} (F : FnE P w K mg base k f fd ps sp) (h : k ≤ j) : FnE P w K mg base j f fd ps sp :=
  ⟨F.len, fun A outer s H us vs Q E p cls d hr => F.run A outer s H us vs Q E p cls d (hr.mono h)⟩
structure ClE (P : Program) (w : World) (K : PySem.W.Frag) (mg : Str → Option Value) (base : Heap) (k : Nat) (x : Str) (sp : SpE) : Prop where
  ex : ∃ (f : Addr) (fd : FuncData) (ps : List Str), FnE P w K mg base k f fd ps sp ∧ mg x = some (.ref f) ∧ PySem.W.keepIn K (.ref f) = true ∧ Binds K fd ps []
section
variable {P : Program} {w : World} {K : PySem.W.Frag} {mg : Str → Option Value} {base : Heap} {N : List Str} {f : Addr}
theorem clE_of {x : Str} {st : Stmt} {ps : List Str} {k : Nat} {sp : SpE} (F : ∃ fd, FnT K x x st [] f fd) (hm : mg x = some (.ref f)) (S : FnScope N ps (defScope st)) (len : ∀ a cls d vs H Q E, sp a cls d vs H Q E → vs.length = ps.length)
    (hb : ∀ (kV doc pm : Value) (an : Option Addr) (cdv ct : Value) (us : List Value), us.length = ps.length → bindArgs (PySem.W.fnOf x x (defArgs st) (defBody st) (defScope st) .none kV doc pm an cdv ct) ⟨us, []⟩ = pure (ps.zip us))
    (body : ∀ (cdv : Value) (A : Around) (outer : List Env) (s : Shared) (H : Hp) (vs : List V) (Q : VK) (E : XK) (p : Addr × Obj) (a : Addr) (cls : Value) (d : Option Addr),
      HotP (L2H.cxH (L2.CX P w) P w K mg base N x (defScope st) f cdv A outer s H E p).A (L2H.cxH (L2.CX P w) P w K mg base N x (defScope st) f cdv A outer s H E p).pn a cls d →
      L2H.RoomH k (A.deeper (envOfC x (defScope st) s.heap.objs.size f cdv)) → sp a cls d vs H Q E →
      ∃ t, PSs (L2H.cxH (L2.CX P w) P w K mg base N x (defScope st) f cdv A outer s H E p) (defBody st) t ∧ t { nx := fun _ H' => Q .non H', rt := Q } (L2.start N vs) H) : ClE P w K mg base (k + 1) x sp := by
  obtain ⟨fd, F⟩ := F
  have hbn := F.bindsN hb
  refine ⟨f, fd, ps, ?_, hm, F.kp, hbn⟩
  obtain ⟨oc, od, dV, kV, doc, pm, an, cdv, ct, osl, rfl, lk, hcd, _, _⟩ := F.ex
  refine ⟨len, fun A outer s H us vs Q E p cls d hr hot hz hpin e0 bt r hsp => ?_⟩
  have KX : K.In s.heap := e0.mod.kin.keeps fun b o e => (e0.bs b o e).1
  have lim : s.heap.NoLimit := e0.mod.nolimit.keeps fun b o e => (e0.bs b o e).1
  have kinds : ∀ y ∈ ps.zip us, (defScope st).names.lookup y.1 = some .local ∨ ((defScope st).names.lookup y.1 = some .cell ∧ ((cellsFrom (s.heap.objs.size + 1) (defScope st).names []).lookup y.1).isSome = true) := fun ⟨n, v⟩ hy =>
    (S.par n (List.of_mem_zip hy).1).imp id fun q => ⟨q, PySem.W.cellsFrom_some _ _ _ (.inl q)⟩
  refine codeAny_call_function hr.depth (KX _ _ lk) rfl S.co S.gen rfl (PySem.W.codeRec_of KX hcd) (bt _ _ _ _ ?_)
  refine wpAny_newFunctionEnv_cells S.kind kinds fun env he s1 x => ?_
  subst he
  refine ⟨lim.keeps x.toInCall.keep, codeAny_func ?_⟩
  obtain ⟨t, ht, hq⟩ := body cdv A outer s H vs Q E p p.1 cls d ⟨p.2, hot, List.mem_singleton.mpr rfl, hz⟩ (hr.deeper _) hsp
  have J0 := L2H.inv_startH (CX := L2.CX P w) (E := E) S hpin e0 (len _ _ _ _ _ _ _ hsp) r x
  refine wpAny_mono (ht.run [] s1 (L2.start N vs) H _ J0 hq) (fun fl s' hs => ?_) fun _ _ z => z
  cases fl with
  | ret u =>
    obtain ⟨v, σ', H', J, rv, q⟩ := hs
    exact ⟨v, H', J.os, J.bare, J.base, J.hok, rv, q⟩
  | next =>
    obtain ⟨σ', H', J, q⟩ := hs
    exact ⟨.non, H', J.os, J.bare, J.base, J.hok, rfl, q⟩
  | brk =>
    obtain ⟨_, _, _, q⟩ := hs
    exact False.elim q
  | cont =>
    obtain ⟨_, _, _, q⟩ := hs
    exact False.elim q
/-- a promise that nobody asks for -/
theorem clE_none {x : Str} {st : Stmt} {ps : List Str} {k : Nat} {sp : SpE} (F : ∃ fd, FnT K x x st [] f fd) (hm : mg x = some (.ref f)) (no : ∀ a cls d vs H Q E, ¬ sp a cls d vs H Q E)
    (hb : ∀ (kV doc pm : Value) (an : Option Addr) (cdv ct : Value) (us : List Value), us.length = ps.length → bindArgs (PySem.W.fnOf x x (defArgs st) (defBody st) (defScope st) .none kV doc pm an cdv ct) ⟨us, []⟩ = pure (ps.zip us)) : ClE P w K mg base k x sp := by
  obtain ⟨fd, F⟩ := F
  exact ⟨f, fd, ps, ⟨fun a cls d vs H Q E h => absurd h (no a cls d vs H Q E), fun A outer s H us vs Q E p cls d _ _ _ _ _ _ _ h => absurd h (no _ _ _ vs H Q E)⟩, hm, F.kp, F.bindsN hb⟩
end
section
variable {X : Cx} {k j : Nat} {x : Str} {sp : SpE} {p pos : Pos} {e : Expr} {es : List Expr} {t : TA} {a : Addr} {cls : Value} {d : Option Addr}
theorem pe_clE (c : ClE X.prog X.w X.K X.mg X.base k x sp) (hot : HotP X.A X.pn a cls d) (hr : L2H.RoomH j X.A) (hk : k ≤ j) (hg : Gl X x) (ha : PA X (e :: es) t)
    (hdb : (x == ("__debug__" : Str)) = false := by decide) (he : starEach (e :: es) X.env = (false, eval e X.env) :: starEach es X.env := by rfl) (hpl : (backTo pos (starEach es X.env)).any (·.1) = false := by rfl) :
    PE X (.Call (.Name x p) (e :: es) [] pos) (tCall (sp a cls d) [] E0 t) := by
  obtain ⟨f, fd, ps, F, hm, kp, hb⟩ := c.ex
  obtain ⟨oe, h1, hp, hz⟩ := hot
  refine ⟨fun pins s σ H Q I h => ?_⟩
  refine wpAny_Call_Name_kw (ld_glob I hg hm ?_ hdb)
  refine PySem.W.callWith_K (h₀ := X.base) I.ok.mod.kin kp (thn (ha.run pos pins s σ H _ I h) fun us s1 ⟨vs, H1, I1, r, q⟩ => ⟨I1.kIn, ?_⟩) he hpl
  have q : sp a cls d (vs ++ []) H1 Q E0 := q
  rw [List.append_nil] at q
  have hl : us.length = ps.length := by rw [← r.length]; exact F.len _ _ _ _ _ _ _ q
  have b := hb s1 us I1.kIn (by rw [List.append_nil]; exact hl)
  rw [List.append_nil] at b
  have P1 := I1.pin (a, oe) (List.mem_append_left _ hp)
  have hpin : L2H.PinOk X.stack H1 s1 (a, oe) := ⟨P1.1, P1.2.1, fun hmm => (List.mem_cons.mp (I1.stkSub a hmm)).elim P1.2.2.1 P1.2.2.2.1, P1.2.2.2.2⟩
  refine wpAny_call (codeAny_mono (F.run X.A X.stack s1 H1 us vs Q E0 (a, oe) cls d (hr.mono hk) h1 hz hpin I1.env0 b r q) fun r s' hq => ?_)
  cases r with
  | error er => exact passL pins σ H1 s1 er s' I1 hq
  | ok fl =>
    cases fl with
    | ret u => exact I1.after hq
    | next => exact False.elim hq
    | brk => exact False.elim hq
    | cont => exact False.elim hq
/-- .. a promise that does not lean on the error -/
theorem pe_clE0 {sp0 : Sp} (c : ClE X.prog X.w X.K X.mg X.base k x (fun _ _ _ => sp0)) (hot : HotP X.A X.pn a cls d) (hr : L2H.RoomH j X.A) (hk : k ≤ j) (hg : Gl X x) (ha : PA X (e :: es) t)
    (hdb : (x == ("__debug__" : Str)) = false := by decide) (he : starEach (e :: es) X.env = (false, eval e X.env) :: starEach es X.env := by rfl) (hpl : (backTo pos (starEach es X.env)).any (·.1) = false := by rfl) :
    PE X (.Call (.Name x p) (e :: es) [] pos) (tCall sp0 [] E0 t) := pe_clE c hot hr hk hg ha hdb he hpl
/-- isinstance(e, c) -/
def rIsX (K : PySem.W.Frag) (a : Addr) (cls : Value) (d : Option Addr) : List V → Hp → VK → Prop := fun xs H Q => ∃ (D : Addr) (c : V) (cv : Value) (b : Bool), cls = .ref D ∧ ExcC K D ∧ xs = [.ref a, c] ∧ ClsV c cv ∧ PySem.W.kitOne K (.ref D) cv = some b ∧
  (d = none ∨ ∃ dd fs, d = some dd ∧ H dd = some (.xd fs)) ∧ Q (.bl b) H
theorem call_isX (hot : HotP X.A X.pn a cls d) : CallR X (.builtin "isinstance") (rIsX X.K a cls d) := by
  intro pins s σ H xs us Q I r h
  obtain ⟨D, c, cv, b, rfl, C, rfl, hcv, e, hd, q⟩ := h
  obtain ⟨oe, ⟨_, vs, hv, _⟩, hp, hz⟩ := hot
  obtain ⟨u1, u2, rfl, r1, r2⟩ := vals2 r
  cases (show u1 = Value.ref a from r1)
  have ec := hcv.eq r2
  subst ec
  obtain ⟨hget, _⟩ := I.pin (a, oe) (List.mem_append_left _ hp)
  have hcl : (PySem.W.clsIn X.K D).isSome = true := by
    obtain ⟨cd, hc, _⟩ := PySem.W.any_some C.hd
    rw [hc]
    rfl
  have go : ∀ od : Option Obj, PySem.W.InstAt s.heap a oe D od → wpAny (model X.prog X.w) X.A (call (.builtin "isinstance") [.ref a, u2]) (EP X pins σ Q) X.xe s := fun od J =>
    PySem.W.kia_one (PySem.W.kitx_exc (od := od) hcl C.hg C.hk C.hs C.ha C.hn C.ht C.hm) I.kIn J e (fun z => nomatch z) fun tk => ⟨.bl b, H, I.kept (t' := tk) fun _ _ z => z, rfl, q⟩
  have hn : PySem.W.notCls oe = true := by
    unfold PySem.W.notCls
    rw [hv] <;> rfl
  rcases hd with hd | ⟨dd, fs, hd, ho⟩
  · exact go none ⟨hget, hz.1, hn, by rw [hz.2, hd]; trivial⟩
  · obtain ⟨mA, ⟨od, _, _, e1, _⟩, _⟩ := (show ObjOk X.prog X.w H s.heap dd (.xd fs) from I.hok dd _ ho)
    exact go (some od) ⟨hget, hz.1, hn, by rw [hz.2, hd]; exact e1⟩
/-- e.f -/
theorem pe_xfH {C : Addr} {e : Expr} {te : TE} {n : Str} {pos : Pos} (T : XfC X.K C) (hno : PySem.W.findIn X.K (.ref C) n = some none) (hot : HotP X.A X.pn a cls d) (he : PE X e te) (hb : attributeBase e n X.env (eval e X.env) = eval e X.env := by rfl) :
    PE X (.Attribute e n pos) (tXf a cls d C n te) := by
  obtain ⟨oe, ⟨_, vs, hv, _⟩, hp, hz⟩ := hot
  refine ⟨fun pins s σ H Q I h => ?_⟩
  refine attr_of hb (thn (he.run pins s σ H _ I h) fun u s1 hh => ?_)
  obtain ⟨x, H1, I1, rx, rfl, rfl, dd, fs, v, rfl, ea, l, q⟩ := hh
  obtain rfl : u = Value.ref a := rx
  obtain ⟨ha, _⟩ := I1.pin (a, oe) (List.mem_append_left _ hp)
  obtain ⟨mA, hns, hr⟩ := (show ObjOk X.prog X.w H1 s1.heap dd (.xd fs) from I1.hok dd _ ea)
  obtain ⟨od, ho, hl⟩ := lookIn_ns hns
  obtain ⟨u, hu, ru⟩ := RelO.some_of (v := v) (o := mA n) (by rw [← l]; exact hr n)
  have hn : PySem.W.notCls oe = true := by
    unfold PySem.W.notCls
    rw [hv] <;> rfl
  have J : PySem.W.InstAt s1.heap a oe C (some od) := ⟨ha, hz.1, hn, by rw [hz.2]; exact ho⟩
  exact HandSPX.exc_get I1.kIn J T.ga T.gg T.exC (PySem.W.findObj_own T.hdC hno rfl (by rw [hl, hu])) (handed_of ru) ⟨v, H1, I1.tok _, ru, q⟩
end
end Z
/-! Comprehensions over a range, all(..) of a list, while an error is handled. -/
namespace Z
open PySem PySem.Spec PyProof.Rows L2 HotX
/-! ### the end of a list -/
section
variable {prog : Program} {w : World} {A : Around} {E : Value → Shared → Prop} {s : Shared}
theorem list_end_hot {it l x1 : Addr} {i : Nat} {items : Array Value} {Q : Option Value → Shared → Prop} (hot : HotAt A x1 s.heap) (ne : x1 ≠ it) (hit : s.heap.IsListIter it l i) (hl : s.heap.IsList l items) (hx : items[i]? = none)
    (hQ : ∀ h', (∀ b o, b ≠ it → s.heap.get? b = some o → h'.get? b = some o) → Q none { s with heap := h' }) : wpAny (model prog w) A (pyNext (.ref it)) Q E s := by
  obtain ⟨o, ho, hc, hd⟩ := id hit
  obtain ⟨ol, hol, _, nl, hdl⟩ := hl
  obtain ⟨hh, o1, vs1, h1, d1, c1⟩ := hot
  unfold pyNext
  refine wpAny_bind (wpAny_attempt (wpAny_callSpecial?_slot (name := Str.ofString "__next__") hit.typeIs slot_listiter_next (wpAny_call_entry slot_listiter_next hit.typeIs entry_listiter_next ?_ (args_listiter_next _))))
  show wpAny _ _ (field (.ref it) 0 >>= _) _ _ s
  refine wpAny_bind (wpAny_field ho hd (x := .ref l) rfl ?_)
  show wpAny _ _ (if (Value.ref l == Value.none) = true then _ else _) _ _ s
  have nn : ¬ ((Value.ref l == Value.none) = true) := fun z => Bool.false_ne_true z
  rw [if_neg nn]
  show wpAny _ _ (field (.ref it) 1 >>= _) _ _ s
  refine wpAny_bind (wpAny_field ho hd (x := .int i 0) rfl ?_)
  show wpAny _ _ (seqItems? (.ref l) >>= _) _ _ s
  refine wpAny_bind (wpAny_seqItems hol hdl ?_)
  simp only [Int.toNat_natCast, hx]
  refine wpAny_bind (wpAny_rule (wpAny_bind (wpAny_setField ho hd (by simp) ?_)))
  show wpAny _ _ (newExc (.type "StopIteration") [] >>= _) _ _ _
  refine wpAny_bind ?_
  simp only [newExc, newTuple]
  refine wpAny_bind (wpAny_newObj_type ?_ (by size_fits))
  refine wpAny_bind (m := firstArgMember _ _) (wpAny_of_eq (a := Value.none) (by first | rfl | (simp only [firstArgMember]; rfl)) ?_)
  refine wpAny_newObj_type ?_ (by size_fits)
  have k1 : ∀ {g : Obj → Obj} {b : Addr} {u : Obj}, b ≠ it → s.heap.get? b = some u → (s.heap.update it g).get? b = some u := fun {g b u} hb e => (Heap.get?_update_other _ _ (Ne.symm hb)).trans e
  refine raiseNew_hot ⟨hh, o1, vs1, Heap.get?_push_of_some _ (Heap.get?_push_of_some _ (k1 ne h1)), d1, c1⟩ (Nat.ne_of_lt (Heap.lt_size (Heap.get?_push_of_some _ (k1 ne h1)))) (Heap.get?_push_size _ rfl) rfl (by first | (simp; done) | (simp; omega) | (simp only [Array.size_append]; simp; omega)) ?_
  refine wpAny_bind (wpAny_isInstance (T := "StopIteration") (b := true) ⟨_, Heap.get?_update_self _ (Heap.get?_push_size _ rfl) rfl, rfl⟩ isSubtype_stop ?_)
  refine wpAny_pure (hQ _ fun b u hb e => ?_)
  rw [Heap.get?_update_other _ _ (Nat.ne_of_gt (Heap.lt_size (Heap.get?_push_of_some _ (k1 hb e))))]
  exact Heap.get?_push_of_some _ (Heap.get?_push_of_some _ (k1 hb e))
theorem walks_listH {prog : Program} {w : World} {A : Around} {x1 : Addr} (hh : A.handled = some (.ref x1)) (I ax : Addr) (hne : ax ≠ I) (h1 : x1 ≠ I) (items : Array Value) :
    Walks prog w A I [I, ax, x1] [I] items.size (fun i v => items[i]? = some v) (fun i h => (h.IsListIter I ax i ∧ h.IsList ax items) ∧ ∃ (o : Obj) (vs : Array Value), h.get? x1 = some o ∧ o.data = .fields vs ∧ vs[2]? = some .none) where
  sub := fun b hb => by simp at hb; simp [hb]
  frame := fun _ _ _ st hk => ⟨⟨st.1.1.at fun o e => hk I (by simp) o e, st.1.2.at fun o e => hk ax (by simp) o e⟩, let ⟨o, vs, e, r⟩ := st.2; ⟨o, vs, hk x1 (by simp) o e, r⟩⟩
  item := fun i s Q E hi st hQ => by
    obtain ⟨⟨s1, s2⟩, o, vs, e, r⟩ := st
    refine wpAny_pyNext_list_item s1 s2 (x := items[i]) (by simp [hi]) fun h' hit' hs' => ?_
    exact hQ _ h' s.toks (by simp [hi]) ⟨⟨hit', s2.extBut hs'.extBut hne⟩, o, vs, hs'.extBut x1 o h1 e, r⟩ fun b o hb e => hs'.extBut b o (fun h => hb (by simp [h])) e
  done := fun s Q E st hQ => by
    obtain ⟨⟨s1, s2⟩, o, vs, e, r⟩ := st
    exact list_end_hot ⟨hh, o, vs, e, r⟩ h1 s1 s2 (by simp) fun h' he' => hQ h' s.toks fun b o hb e => he' b o (fun h => hb (by simp [h])) e
  self := fun _ _ _ _ st hQ => wpAny_pyIter_listiter st.1.1 hQ
end
section
variable {X : Cx}
theorem cr_allH (hc : L2H.HotC X) : CallR X (.builtin "all") (rAll X.K) := by
  intro pins s σ H vs us Q I r h
  obtain ⟨a, bs, rfl, hs, q⟩ := h
  obtain ⟨its, rv, hl, _⟩ := I.list hs
  rw [Vals.ref1 r]
  have hb := rv.bls
  obtain ⟨p, ⟨hh, vs1, d1, c1⟩, hp⟩ := hc
  have g1 := (I.pin p (List.mem_append_left _ hp)).1
  refine call_all_walk (iter_any hl.isList fun s₂ e2 st hne => ?_)
  subst e2
  refine ⟨_, _, _, _, _, _, _, rfl, walks_listH (A := X.A.in1) (x1 := p.1) hh _ a hne (Nat.ne_of_lt (Heap.lt_size g1)) its.toArray, ⟨st, p.2, vs1, Heap.get?_push_of_some _ g1, d1, c1⟩, truth_bools hb, fun h' tk hk => ?_⟩
  refine ⟨.bl _, H, I.kept fun b o eo => hk b o (fun hmem => ?_) (Heap.get?_push_of_some _ eo), ?_, q⟩
  · rcases List.mem_cons.mp hmem with e1 | hmem
    · exact absurd (e1 ▸ Heap.lt_size eo) (Nat.lt_irrefl _)
    · cases hmem
  · show Value.bool _ = Value.bool _
    rw [← L2.all_range, hb, List.size_toArray, List.length_map]
end
/-! ### a comprehension's block there -/
abbrev blkH (X : Cx) (s : Shared) (H : Hp) (scope : Scope) (cenv : Env) (fp : List Addr) : Cx := { X.blk s H scope cenv fp with pn := X.pn }
section
variable {X : Cx} {pins : List (Addr × Obj)} {σ : L2.St} {H : Hp} {s : Shared}
theorem blkH_start {scope : Scope} {own : List (Str × Nat)} {fp : List Addr} (I : Inv X pins σ H s) (ok : BlkOk X.N X.env.scope scope own) (hN : X.N.Nodup) (hfp : ∀ b ∈ fp, FpOk X pins H b ∧ b < s.heap.objs.size) :
    Inv (blkH X s H scope (compEnvC scope (cellsFrom (s.heap.objs.size + 1) scope.names (cloFrom X.env.cells scope.names [])) s.heap.objs.size X.env) fp) [] (wipe σ (own.map (·.2))) H { s with heap := pushCells (s.heap.push { cls := .type "dict", data := .dict #[] }) scope.names } := by
  have J := block_start I ok hN hfp
  refine ⟨⟨J.ok.mod, J.ok.kind, J.ok.glob, J.ok.blt, J.ok.above, J.ok.inj, J.ok.has, J.ok.cab, J.ok.hd, J.ok.frames, J.ok.stk, J.ok.exf, J.ok.bs, J.ok.bsz, J.ok.noex, J.ok.exfs, J.ok.funs, J.ok.frf⟩, J.os, J.bare, J.base, J.loc, J.cell, J.free, J.freeC, fun p hp => ?_, J.hok, J.len⟩
  have hp : p ∈ X.pn := by
    rcases List.mem_append.mp hp with z | z
    · exact z
    · cases z
  obtain ⟨e, n, ne, nf, nd⟩ := I.pin p (List.mem_append_left _ hp)
  exact ⟨pushCells_keeps _ _ _ _ (Heap.get?_push_of_some _ e), n, Nat.ne_of_lt (Heap.lt_size e), fun hm => (List.mem_cons.mp (I.stkSub p.1 hm)).elim ne nf, nd⟩
end
section
variable {X : Cx} {elt tg iter : Expr} {ifs : List Expr} {scope : Scope} {own : List (Str × Nat)} {pos : Pos} {wi : TI} {g : TG} {tt : TT} {te : TE}
/-- [elt for target in iter if ..] while an error is handled -/
theorem pe_lcH (hot : L2H.HotC X) (hN : X.N.Nodup) (hi : L2H.PIH X tg iter wi) (ok : BlkOk X.N X.env.scope scope own)
    (hg : ∀ (s : Shared) (H : Hp) (C : Addr) (cl : List (Str × Addr)) (fp : List Addr), PG (blkH X s H scope (compEnvC scope cl C X.env) fp) tg g)
    (ht : ∀ (s : Shared) (H : Hp) (C : Addr) (cl : List (Str × Addr)) (fp : List Addr), PTs (blkH X s H scope (compEnvC scope cl C X.env) fp) ifs tt)
    (he : ∀ (s : Shared) (H : Hp) (C : Addr) (cl : List (Str × Addr)) (fp : List Addr), PE (blkH X s H scope (compEnvC scope cl C X.env) fp) elt te) (hs : ∀ x, foldedSetIterable iter X.env x = pure x := by intro _; rfl) :
    PE X (.ListComp elt [⟨tg, iter, ifs, 0⟩] scope pos) (tLc wi g tt te (own.map (·.2))) := by
  refine ⟨fun pins s σ H Q I h => ?_⟩
  rw [eval_ListComp]
  have frees : ∀ y ∈ scope.names, y.2 = .free → ∃ c, X.env.cells.lookup y.1 = some c := fun y hy e => (ok.free y hy e).elim (fun k => I.ok.has _ (.inl k)) fun k => I.ok.has _ (.inr k)
  refine wpAny_comprehension_free (use := none) rfl hs (closure_ok frees) ok.kind (fun y hy e => by rw [ok.uniq y hy, e]) (thn (hi.run pins s σ H _ I h) fun xv s1 hx => thn hx fun itv s2 h2 => ?_)
  obtain ⟨it, fp, tn, J, H2, rfl, I2, T, st2, f2, q⟩ := h2
  refine wpAny_newObj_type (newEnv_comp ?_) (by show 0 ≤ sizeLine; decide)
  generalize hD : s2.heap.objs.size = D
  have hDn : H2 D = none := I2.hok.fresh (Nat.le_of_eq hD)
  obtain ⟨W, ⟨m0, w0⟩, turn⟩ := q D hDn
  generalize hs3 : ({ s2 with heap := s2.heap.push { cls := .type "list", data := .seq ([] : List Value).toArray } } : Shared) = s3
  have h3 : s3.heap = s2.heap.push { cls := .type "list", data := .seq ([] : List Value).toArray } := by rw [← hs3]
  have I3 : Inv X pins σ (upd H2 D (.lst [])) s3 := by
    rw [← hs3]
    exact I2.laid (t' := s2.toks) (fun b o e => Heap.get?_push_of_some _ e) (Nat.le_of_eq hD) ⟨Nat.zero_le _, [], 0, .nil, by rw [← hD]; exact Heap.get?_push_size _ rfl⟩
  have small : ∀ b ∈ fp, b < s2.heap.objs.size := fun b hb => by
    obtain ⟨o, e, _⟩ := T.obj _ _ st2 b hb
    exact Heap.lt_size e
  have f3 : ∀ b ∈ fp, FpOk X pins (upd H2 D (.lst [])) b ∧ b < s3.heap.objs.size := fun b hb => by
    have lt := small b hb
    refine ⟨⟨(upd_ne (by rw [← hD]; exact Nat.ne_of_lt lt)).trans (f2 b hb).1, (f2 b hb).2⟩, ?_⟩
    rw [h3, Heap.size_push]
    exact Nat.lt_succ_of_lt lt
  have st3 : tn 0 s3.heap := T.keep _ _ _ st2 fun b _ o e => by rw [h3]; exact Heap.get?_push_of_some _ e
  have I4 := blkH_start I3 ok hN f3
  have pg := hg s3 (upd H2 D (.lst [])) s3.heap.objs.size (cellsFrom (s3.heap.objs.size + 1) scope.names (cloFrom X.env.cells scope.names [])) fp
  have pt := ht s3 (upd H2 D (.lst [])) s3.heap.objs.size (cellsFrom (s3.heap.objs.size + 1) scope.names (cloFrom X.env.cells scope.names [])) fp
  have pe := he s3 (upd H2 D (.lst [])) s3.heap.objs.size (cellsFrom (s3.heap.objs.size + 1) scope.names (cloFrom X.env.cells scope.names [])) fp
  show codeAny _ _ (.compStart (.ListComp elt [⟨tg, iter, ifs, 0⟩] scope pos) 0 (.ref it) (.ref D) (compEnvC scope (cellsFrom (s3.heap.objs.size + 1) scope.names (cloFrom X.env.cells scope.names [])) s3.heap.objs.size X.env))
    (compPost (model X.prog X.w) X.A X.xe none (EP X pins σ Q) (.ref D) s3.heap.objs.size) { s3 with heap := pushCells (s3.heap.push { cls := .type "dict", data := .dict #[] }) scope.names }
  generalize hce : compEnvC scope (cellsFrom (s3.heap.objs.size + 1) scope.names (cloFrom X.env.cells scope.names [])) s3.heap.objs.size X.env = ce at I4 pg pt pe ⊢
  have cL : ce.locals = s3.heap.objs.size := by subst hce; rfl
  have n3 : ∀ b ∈ fp, (upd H2 D (.lst [])) b = none := fun b hb => (f3 b hb).1.1
  generalize hH3 : upd H2 D (.lst []) = H3 at I3 I4 pg pt pe w0 n3 f3
  generalize hs4 : ({ s3 with heap := pushCells (s3.heap.push { cls := .type "dict", data := .dict #[] }) scope.names } : Shared) = s4 at I4 ⊢
  have st4 : tn 0 s4.heap := T.keep _ _ _ st3 fun b _ o e => by rw [← hs4]; exact pushCells_keeps _ _ _ _ (Heap.get?_push_of_some _ e)
  have hotB : L2H.HotC (blkH X s3 H3 scope ce fp) := hot
  have feet : ∀ {σ' : L2.St} {H' : Hp} {s' : Shared}, Inv (blkH X s3 H3 scope ce fp) [] σ' H' s' → (∀ b ∈ fp, H' b = none) → ∀ b ∈ fp, FpOk (blkH X s3 H3 scope ce fp) [] H' b := fun {σ' H' s'} I' hn b hb =>
    ⟨hn b hb, (I'.ok.exf b hb).1, I'.ok.exfs b hb, .inl hb, fun x c e => (I'.ok.exf b hb).2 x c e, fun p hp => (f3 b hb).1.2.2.2.2.2 p (List.mem_append_left _ (by
      rcases List.mem_append.mp hp with z | z
      · exact z
      · cases z))⟩
  have loop : codeAny (model X.prog X.w) X.A (.compLoop (.ListComp elt [⟨tg, iter, ifs, 0⟩] scope pos) 0 (.ref it) (.ref D) ce) (compPost (model X.prog X.w) X.A X.xe none (EP X pins σ Q) (.ref D) s3.heap.objs.size) s4 := by
    refine compLoop_any (fun n s' => ∃ i H', Inv (blkH X s3 H3 scope ce fp) [] (wipe σ (own.map (·.2))) H' s' ∧ tn i s'.heap ∧ (∀ b ∈ fp, H' b = none) ∧ W i n H') ?_ m0 ⟨0, H3, I4, st4, n3, w0⟩
    rintro n s5 ⟨i, H5, I5, st5, n5, w5⟩
    rcases turn i n H5 w5 with ⟨stop, qq⟩ | ⟨go, Nx, hNx, step⟩
    · refine thnF (T.done (blkH X s3 H3 scope ce fp) rfl rfl rfl hotB i [] s5 _ H5 (fun _ _ => False) I5 (feet I5 n5) st5 stop) fun r s6 ⟨hr, I6⟩ => ?_
      subst hr
      have I7 : Inv X pins σ H5 s6 := I3.call' (ch := fp) I6.os I6.base I6.hok I6.bare fun b hb => ⟨(f3 b hb).1.2.2.2.1, (f3 b hb).1.2.1, (f3 b hb).1.2.2.2.2.1, (f3 b hb).1.2.2.2.2.2⟩
      have nC : H5 s3.heap.objs.size = none := by
        have z : H5 ce.locals = none := I6.free
        rwa [cL] at z
      obtain ⟨m, hn, _⟩ := I6.loc
      have hn : s6.heap.Ns ce.locals m := hn
      rw [cL] at hn
      obtain ⟨f0, f1, f2', f3', f4, f5⟩ := I3.fpOk (H' := H5) (Nat.le_refl _) nC
      exact ⟨m, hn, fun h'' sb => ⟨.ref D, H5, I7.turned (t' := s6.toks) (fun b o hb e => (sb.2 b hb).trans e) f0 f1 f3' f4 f5, rfl, qq⟩⟩
    · refine thnF (T.item (blkH X s3 H3 scope ce fp) rfl rfl rfl hotB i [] s5 _ H5 (fun _ _ => False) I5 (feet I5 n5) st5 go) fun r s6 ⟨u, hr, h6⟩ => ?_
      subst hr
      refine thnF h6 fun _ s7 ⟨x, H7, I7, r7, y7, st7, n7⟩ => ?_
      have I7' := I7.pinned (feet I7 n7) (T.obj _ _ st7)
      refine thnF (pg.run _ s7 _ H7 x u _ I7' r7 (step x H7 y7)) fun _ s8 ⟨σ8, H8, I8, hw8, q8⟩ => ?_
      refine thnF (pt.run _ s8 σ8 H8 _ I8 q8) fun b s9 ⟨H9, I9, q9⟩ => ?_
      have fin : ∀ {s' : Shared} {H' : Hp}, Inv (blkH X s3 H3 scope ce fp) ([] ++ pinsAt fp s7.heap) σ8 H' s' → Nx H' → ∃ m, m < n ∧ ∃ i H', Inv (blkH X s3 H3 scope ce fp) [] (wipe σ (own.map (·.2))) H' s' ∧ tn i s'.heap ∧ (∀ b ∈ fp, H' b = none) ∧ W i m H' := fun {s' H'} I' nx => by
        obtain ⟨m', hm, w'⟩ := hNx H' nx
        have pin' : ∀ b ∈ fp, ∀ o, s7.heap.get? b = some o → s'.heap.get? b = some o ∧ H' b = none := fun b hb o e =>
          let z := I'.pin (b, o) (List.mem_append_right _ (List.mem_append_right _ (mem_pinsAt hb e)))
          ⟨z.1, z.2.1⟩
        refine ⟨m', hm, i + 1, H', (I'.unpinned (pins := [])).weak (by rw [← hw8, wipe_length]) (fun j v e => ?_), T.keep _ _ _ st7 fun b hb o e => (pin' b hb o e).1, fun b hb => ?_, w'⟩
        · rw [← hw8] at e
          exact (wipe_some e).1
        · obtain ⟨o, e, _⟩ := T.obj _ _ st7 b hb
          exact (pin' b hb o e).2
      cases b with
      | false =>
        simp only [Bool.false_eq_true, if_false] at q9 ⊢
        exact fin I9 q9
      | true =>
        simp only [if_true] at q9 ⊢
        refine thnF (pe.run _ s9 σ8 H9 _ I9 q9) fun z s10 ⟨yv, H10, I10, r10, acc, hD10, hz10, nx⟩ => ?_
        exact app_ok (X := blkH X s3 H3 scope ce fp) I10 hD10 hz10 r10 fun s11 I11 => fin I11 nx
  exact codeAny_compStart_list loop (T.self X.A 0 _ _ _ st4 loop)
end
end Z
namespace Z
open PySem PySem.Spec PyProof.Rows L2
local macro_rules | `(tactic| walk_at "look") => `(tactic| first | assumption | exact upd_same | exact SqL.of (by assumption) | exact SqT.of (by assumption) | exact SqL.of upd_same | exact SqT.of upd_same)
local macro_rules | `(tactic| walk_at "at") => `(tactic| first | exact at0 | exact at1 | exact at2 | exact at3 | exact ix0 | exact ix1 | assumption | exact atI_nat (by rfl))
local macro_rules | `(tactic| walk_at "sd") => `(tactic| ((try dsimp only); first | assumption | omega | (unfold CMul; omega) | (unfold CDiv; omega) | (unfold CPow; decide) | decide))
local macro_rules | `(tactic| walk_at "st") => `(tactic| first
  | (refine ⟨_, rfl, ?_⟩)
  | (refine ⟨_, _, rfl, rfl, ?_⟩)
  | (refine ⟨rfl, ?_⟩)
  | (refine .inl ⟨_, rfl, ?_⟩)
  | (refine ⟨_, _, _, _, rfl, rfl, (by walk_at "look"), (by walk_at "at"), ?_⟩)
  | (refine ⟨_, _, rfl, .inl (by walk_at "look"), ?_⟩)
  | (refine And.intro (by walk_at "sd") ?_)
  | fail "no step")
local macro_rules | `(tactic| walk_at "go") => `(tactic| repeat' (walk_at "st"))
local macro_rules | `(tactic| walk_at "ans") => `(tactic| (intro Q q; (repeat' (walk_at "st")); exact q))
local macro_rules | `(tactic| walk_at "lits") => `(tactic| repeat' (first | exact lit_nil | exact lit_int _ | exact lit_str _ | exact lit_non | exact lit_bl _ | exact lit_neg _ | apply lit_cons | (refine lit_tup ?_ (by decide)) | (refine lit_lst ?_ (by decide))))
/-! ### the seven errors -/
theorem take0N {X : Cx} : L2N.Takes X (fun _ _ _ _ => False) := fun u s' x => by
  obtain ⟨a, B, sI, pins, σ, H, cls, d, _, _, _, _, _, _, _, _, w⟩ := x
  exact w.elim
theorem unitsH {k : Nat} {A : Around} (r : L2H.RoomH k A) : A.units + 64 < cLine := by
  have := r.un
  omega
/-- a try whose clause catches all -/
def tTryAsF (K : PySem.W.Frag) (c : Value) (i : Nat) (tb : WX → TS) (ts : Addr → Value → Option Addr → TS) : TS := fun D σ H => tb (wAs K c i ts (fun _ _ _ _ => False) D) D σ H
def errL : List Str := ["BadLeft", "BadNumber", "BadTurn", "BadChild", "AtEnd", "BadVerses", "InvalidLine"]
def errN (k : Nat) : Str := errL.getD k ""
def errA (K : PySem.W.Frag) (k : Nat) : Addr := He.ga K (errN k)
def fldN (k : Nat) : Str := if k = 5 then "index" else "line"
structure ErrF (K : PySem.W.Frag) : Prop where
  ex : ∀ k, k < 7 → ExcC K (errA K k)
  ve : ∀ k, k < 7 → PySem.W.kitOne K (.ref (errA K k)) (.type "ValueError") = some true
  re : ∀ k, k < 7 → PySem.W.exmOne K (.ref (errA K k)) (.ref (He.ga K "RhymeError")) = some true
  kk : ∀ k, k < 7 → ∀ j, j < 7 → PySem.W.kitOne K (.ref (errA K k)) (.ref (errA K j)) = some (decide (j = k))
def excB (K : PySem.W.Frag) (D : Addr) : Bool :=
  He.eqO (PySem.W.findIn K (.ref D) "__getattribute__") (some (some (.builtin "BaseException.__getattribute__"))) && (He.eqO (PySem.W.findIn K (.ref D) "__getattr__") (some none) && (decide (PySem.W.subIn K (.ref D) (.type "BaseException") = some true) && (PySem.W.hasDictIn K D &&
  (He.eqO (PySem.W.findIn K (.ref D) "__class__") (some (some (.builtin "object.__class__"))) && (He.eqO (PySem.W.specialIn K (.builtin "object.__class__") "__get__") (some (some (.builtin "getset_descriptor.__get__"))) &&
  (decide (PySem.W.takesIn K (.builtin "object.__class__") = some true) && decide (PySem.W.mroIn K D (.type "object") = some true)))))))
theorem excB_ok {K : PySem.W.Frag} {D : Addr} (h : excB K D = true) : ExcC K D := by
  obtain ⟨h1, h⟩ := He.ba h
  obtain ⟨h2, h⟩ := He.ba h
  obtain ⟨h3, h⟩ := He.ba h
  obtain ⟨h4, h⟩ := He.ba h
  obtain ⟨h5, h⟩ := He.ba h
  obtain ⟨h6, h⟩ := He.ba h
  obtain ⟨h7, h8⟩ := He.ba h
  exact ⟨He.eqO_ok h1, He.eqO_ok h2, of_decide_eq_true h3, h4, He.eqO_ok h5, He.eqO_ok h6, of_decide_eq_true h7, of_decide_eq_true h8⟩
def errB (K : PySem.W.Frag) : Bool := (List.range 7).all fun k => excB K (errA K k) && (decide (PySem.W.kitOne K (.ref (errA K k)) (.type "ValueError") = some true) && (decide (PySem.W.exmOne K (.ref (errA K k)) (.ref (He.ga K "RhymeError")) = some true) &&
  (List.range 7).all fun j => decide (PySem.W.kitOne K (.ref (errA K k)) (.ref (errA K j)) = some (decide (j = k)))))
theorem errB_ok {K : PySem.W.Frag} (h : errB K = true) : ErrF K := by
  have g : ∀ k, k < 7 → _ := fun k hk => List.all_eq_true.mp h k (List.mem_range.mpr hk)
  refine ⟨fun k hk => ?_, fun k hk => ?_, fun k hk => ?_, fun k hk j hj => ?_⟩
  · exact excB_ok (He.ba (g k hk)).1
  · exact of_decide_eq_true (He.ba (He.ba (g k hk)).2).1
  · exact of_decide_eq_true (He.ba (He.ba (He.ba (g k hk)).2).2).1
  · exact of_decide_eq_true (List.all_eq_true.mp (He.ba (He.ba (He.ba (g k hk)).2).2).2 j (List.mem_range.mpr hj))
/-- the error's dict: none, or it stands there -/
def DicT (d : Option Addr) (H : Hp) : Prop := d = none ∨ ∃ dd fs, d = some dd ∧ H dd = some (.xd fs)
theorem dict_ex {d : Option Addr} {H H' : Hp} (e : Ex H H') (h : DicT d H) : DicT d H' := h.imp id fun ⟨dd, fs, h1, h2⟩ => ⟨dd, fs, h1, e _ _ h2⟩
@[irreducible] def sp_law_thrown (K : PySem.W.Frag) : Sp := fun ws H Q E => ∃ (k : Nat) (y : V), ws = [.int (k : Nat), y] ∧ k < 7 ∧ (k < 5 → E (.ref (errA K k)) none H) ∧ (5 ≤ k → ∀ dd, H dd = none → E (.ref (errA K k)) (some dd) (upd H dd (.xd [(fldN k, y)])))
@[irreducible] def sp_law_classes (K : PySem.W.Frag) (a : Addr) (cls : Value) (d : Option Addr) : Sp := fun ws H Q _ => ∃ k : Nat, ws = [.ref a] ∧ k < 7 ∧ cls = .ref (errA K k) ∧ DicT d H ∧
  ∀ (p : Addr) (H' : Hp), Ex H H' → H' p = some (.lst ((List.range 7).map fun j => V.bl (decide (j = k)))) → Q (.ref p) H'
@[irreducible] def sp_law_field (K : PySem.W.Frag) (a : Addr) (cls : Value) (d : Option Addr) : Sp := fun ws H Q _ => ∃ (k : Nat) (y : V), ws = [.int (k : Nat), .ref a] ∧ k < 7 ∧ cls = .ref (errA K k) ∧ (k < 5 → Q .non H) ∧ (5 ≤ k → ∃ dd, d = some dd ∧ H dd = some (.xd [(fldN k, y)]) ∧ Q y H)
def t_law_thrown_0a_0 (K : PySem.W.Frag) (E : XK) : TS := (tRaise0 E (He.ga K "BadLeft"))

def t_law_thrown_1a_0 (K : PySem.W.Frag) (E : XK) : TS := (tRaise0 E (He.ga K "BadNumber"))

def t_law_thrown_2a_0 (K : PySem.W.Frag) (E : XK) : TS := (tRaise0 E (He.ga K "BadTurn"))

def t_law_thrown_3a_0 (K : PySem.W.Frag) (E : XK) : TS := (tRaise0 E (He.ga K "BadChild"))

def t_law_thrown_4a_0 (K : PySem.W.Frag) (E : XK) : TS := (tRaise0 E (He.ga K "AtEnd"))

def t_law_thrown_5a_0 (K : PySem.W.Frag) (E : XK) : TS := (tRaise1 E (He.ga K "BadVerses") "index" (tCons (tVar 1) tNil))

def t_law_thrown_6 (K : PySem.W.Frag) (E : XK) : TS := (tRaise1 E (He.ga K "InvalidLine") "line" (tCons (tVar 1) tNil))

@[irreducible] def t_law_thrown_5 (K : PySem.W.Frag) (E : XK) : TS := tSeq (tIfS (tTest (tOp rEq (tVar 0) (tC (.int 5))))
    (t_law_thrown_5a_0 K E) tNext) (t_law_thrown_6 K E)

@[irreducible] def t_law_thrown_4 (K : PySem.W.Frag) (E : XK) : TS := tSeq (tIfS (tTest (tOp rEq (tVar 0) (tC (.int 4))))
    (t_law_thrown_4a_0 K E) tNext) (t_law_thrown_5 K E)

@[irreducible] def t_law_thrown_3 (K : PySem.W.Frag) (E : XK) : TS := tSeq (tIfS (tTest (tOp rEq (tVar 0) (tC (.int 3))))
    (t_law_thrown_3a_0 K E) tNext) (t_law_thrown_4 K E)

@[irreducible] def t_law_thrown_2 (K : PySem.W.Frag) (E : XK) : TS := tSeq (tIfS (tTest (tOp rEq (tVar 0) (tC (.int 2))))
    (t_law_thrown_2a_0 K E) tNext) (t_law_thrown_3 K E)

@[irreducible] def t_law_thrown_1 (K : PySem.W.Frag) (E : XK) : TS := tSeq (tIfS (tTest (tOp rEq (tVar 0) (tC (.int 1))))
    (t_law_thrown_1a_0 K E) tNext) (t_law_thrown_2 K E)

@[irreducible] def t_law_thrown_0 (K : PySem.W.Frag) (E : XK) : TS := tSeq (tIfS (tTest (tOp rEq (tVar 0) (tC (.int 0))))
    (t_law_thrown_0a_0 K E) tNext) (t_law_thrown_1 K E)
def t_law_classes_1 (K : PySem.W.Frag) (a : Addr) (cls : Value) (d : Option Addr) (E : XK) : TS := (tRet (tOp rCat (tVar 1) (tLst (tCons (tCB (rIsX K a cls d) (tCons (tVar 0) (tCons (tC (.ref (He.ga K "AtEnd"))) tNil))) (tCons (tCB (rIsX K a cls d) (tCons (tVar 0) (tCons (tC (.ref (He.ga K "BadVerses"))) tNil))) (tCons (tCB (rIsX K a cls d) (tCons (tVar 0) (tCons (tC (.ref (He.ga K "InvalidLine"))) tNil))) tNil))))))

def t_law_classes_0 (K : PySem.W.Frag) (a : Addr) (cls : Value) (d : Option Addr) (E : XK) : TS := tSeq (tAsg (tLst (tCons (tCB (rIsX K a cls d) (tCons (tVar 0) (tCons (tC (.ref (He.ga K "BadLeft"))) tNil))) (tCons (tCB (rIsX K a cls d) (tCons (tVar 0) (tCons (tC (.ref (He.ga K "BadNumber"))) tNil))) (tCons (tCB (rIsX K a cls d) (tCons (tVar 0) (tCons (tC (.ref (He.ga K "BadTurn"))) tNil))) (tCons (tCB (rIsX K a cls d) (tCons (tVar 0) (tCons (tC (.ref (He.ga K "BadChild"))) tNil))) tNil))))) (gName 1)) (t_law_classes_1 K a cls d E)
def t_law_field_0a_0 (K : PySem.W.Frag) (a : Addr) (cls : Value) (d : Option Addr) (E : XK) : TS := (tRet (tC .non))

def t_law_field_1 (K : PySem.W.Frag) (a : Addr) (cls : Value) (d : Option Addr) (E : XK) : TS := (tRet (tIf (tTest (tOp rEq (tVar 0) (tC (.int 5)))) (tXf a cls d (He.ga K "BadVerses") "index" (tVar 1)) (tXf a cls d (He.ga K "InvalidLine") "line" (tVar 1))))

@[irreducible] def t_law_field_0 (K : PySem.W.Frag) (a : Addr) (cls : Value) (d : Option Addr) (E : XK) : TS := tSeq (tIfS (tTest (tOp oLt (tVar 0) (tC (.int 5))))
    (t_law_field_0a_0 K a cls d E) tNext) (t_law_field_1 K a cls d E)

theorem eq_no {K : PySem.W.Frag} {k : Nat} {y : V} {n : Int} {t u : TS} {D : Ends} {H : Hp} (ne : (k : Int) ≠ n) (h : u D [some (.int (k : Nat)), some y] H) : tSeq (tIfS (tTest (tOp rEq (tVar 0) (tC (.int n)))) t tNext) u D [some (.int (k : Nat)), some y] H :=
  if_go false (fun Q q => ⟨_, rfl, rfl, _, rfl, by rw [d_int, decide_eq_false ne]; exact q⟩) (fun z => nomatch z) fun _ => h
theorem eq_yes {K : PySem.W.Frag} {k : Nat} {y : V} {n : Int} {t u : TS} {D : Ends} {H : Hp} (e : (k : Int) = n) (h : t { D with nx := fun σ' H' => u D σ' H' } [some (.int (k : Nat)), some y] H) : tSeq (tIfS (tTest (tOp rEq (tVar 0) (tC (.int n)))) t tNext) u D [some (.int (k : Nat)), some y] H :=
  if_go true (fun Q q => ⟨_, rfl, rfl, _, rfl, by rw [d_int, decide_eq_true e]; exact q⟩) (fun _ => h) fun z => nomatch z
theorem pure_law_thrown {K : PySem.W.Frag} (ws : List V) (H : Hp) (Q : VK) (E : XK) (h : sp_law_thrown K ws H Q E) : t_law_thrown_0 K E { nx := fun _ H' => Q .non H', rt := Q } (start ["_law_k", "_law_one"] ws) H := by
  unfold sp_law_thrown at h
  obtain ⟨k, y, rfl, hk, k1, k2⟩ := h
  show t_law_thrown_0 K E { nx := fun _ H' => Q .non H', rt := Q } [some (.int (k : Nat)), some y] H
  have c : k = 0 ∨ k = 1 ∨ k = 2 ∨ k = 3 ∨ k = 4 ∨ k = 5 ∨ k = 6 := by omega
  unfold t_law_thrown_0
  rcases c with rfl | c
  · exact eq_yes (K := K) (by decide) (k1 (by decide))
  refine eq_no (K := K) (by omega) ?_
  unfold t_law_thrown_1
  rcases c with rfl | c
  · exact eq_yes (K := K) (by decide) (k1 (by decide))
  refine eq_no (K := K) (by omega) ?_
  unfold t_law_thrown_2
  rcases c with rfl | c
  · exact eq_yes (K := K) (by decide) (k1 (by decide))
  refine eq_no (K := K) (by omega) ?_
  unfold t_law_thrown_3
  rcases c with rfl | c
  · exact eq_yes (K := K) (by decide) (k1 (by decide))
  refine eq_no (K := K) (by omega) ?_
  unfold t_law_thrown_4
  rcases c with rfl | c
  · exact eq_yes (K := K) (by decide) (k1 (by decide))
  refine eq_no (K := K) (by omega) ?_
  unfold t_law_thrown_5
  rcases c with rfl | rfl
  · exact eq_yes (K := K) (by decide) ⟨_, rfl, fld_end fun dd nd => k2 (by decide) dd nd⟩
  · exact eq_no (K := K) (by decide) ⟨_, rfl, fld_end fun dd nd => k2 (by decide) dd nd⟩
theorem pure_law_classes {K : PySem.W.Frag} (T : ErrF K) {a : Addr} {cls : Value} {d : Option Addr} (ws : List V) (H : Hp) (Q : VK) (E : XK) (h : sp_law_classes K a cls d ws H Q E) : t_law_classes_0 K a cls d E { nx := fun _ H' => Q .non H', rt := Q } (start ["_law_e", "_law_found"] ws) H := by
  unfold sp_law_classes at h
  obtain ⟨k, rfl, hk, rfl, hd, kk⟩ := h
  show t_law_classes_0 K a (.ref (errA K k)) d E { nx := fun _ H' => Q .non H', rt := Q } [some (.ref a), none] H
  refine ⟨_, rfl, errA K k, .ref (errA K 0), .ref (errA K 0), decide (0 = k), rfl, T.ex k hk, rfl, .own _, T.kk k hk 0 (by decide), hd, ?_⟩
  refine ⟨_, rfl, errA K k, .ref (errA K 1), .ref (errA K 1), decide (1 = k), rfl, T.ex k hk, rfl, .own _, T.kk k hk 1 (by decide), hd, ?_⟩
  refine ⟨_, rfl, errA K k, .ref (errA K 2), .ref (errA K 2), decide (2 = k), rfl, T.ex k hk, rfl, .own _, T.kk k hk 2 (by decide), hd, ?_⟩
  refine ⟨_, rfl, errA K k, .ref (errA K 3), .ref (errA K 3), decide (3 = k), rfl, T.ex k hk, rfl, .own _, T.kk k hk 3 (by decide), hd, ?_⟩
  refine ⟨(by show 4 ≤ sizeLine; decide), fun p hp => ?_⟩
  have e1 := ex_new (o := .lst [V.bl (decide (0 = k)), .bl (decide (1 = k)), .bl (decide (2 = k)), .bl (decide (3 = k))]) hp
  show t_law_classes_1 K a (.ref (errA K k)) d E { nx := fun _ H' => Q .non H', rt := Q } [some (.ref a), some (.ref p)] (upd H p (.lst [V.bl (decide (0 = k)), .bl (decide (1 = k)), .bl (decide (2 = k)), .bl (decide (3 = k))]))
  have hd1 := dict_ex e1 hd
  refine ⟨_, rfl, ?_⟩
  refine ⟨_, rfl, errA K k, .ref (errA K 4), .ref (errA K 4), decide (4 = k), rfl, T.ex k hk, rfl, .own _, T.kk k hk 4 (by decide), hd1, ?_⟩
  refine ⟨_, rfl, errA K k, .ref (errA K 5), .ref (errA K 5), decide (5 = k), rfl, T.ex k hk, rfl, .own _, T.kk k hk 5 (by decide), hd1, ?_⟩
  refine ⟨_, rfl, errA K k, .ref (errA K 6), .ref (errA K 6), decide (6 = k), rfl, T.ex k hk, rfl, .own _, T.kk k hk 6 (by decide), hd1, ?_⟩
  refine ⟨(by show 3 ≤ sizeLine; decide), fun b hb => ?_⟩
  have e2 := ex_new (o := .lst [V.bl (decide (4 = k)), .bl (decide (5 = k)), .bl (decide (6 = k))]) hb
  refine ⟨p, b, _, _, rfl, rfl, e2 _ _ upd_same, upd_same, (by show 7 ≤ sizeLine; decide), fun q hq => ?_⟩
  exact kk q _ (ex_trans e1 (ex_trans e2 (ex_new hq))) upd_same
theorem pure_law_field {K : PySem.W.Frag} {a : Addr} {cls : Value} {d : Option Addr} (ws : List V) (H : Hp) (Q : VK) (E : XK) (h : sp_law_field K a cls d ws H Q E) : t_law_field_0 K a cls d E { nx := fun _ H' => Q .non H', rt := Q } (start ["_law_k", "_law_e"] ws) H := by
  unfold sp_law_field at h
  obtain ⟨k, y, rfl, hk, rfl, k1, k2⟩ := h
  show t_law_field_0 K a (.ref (errA K k)) d E { nx := fun _ H' => Q .non H', rt := Q } [some (.int (k : Nat)), some (.ref a)] H
  unfold t_law_field_0
  refine if_go (decide ((k : Int) < 5)) (fun Q q => ⟨_, rfl, _, _, rfl, rfl, _, rfl, q⟩) (fun c => ?_) (fun c => ?_)
  · have := of_decide_eq_true c
    exact k1 (by omega)
  · have c5 := of_decide_eq_false c
    obtain ⟨dd, rfl, ho, q⟩ := k2 (by omega)
    have c6 : k = 5 ∨ k = 6 := by omega
    rcases c6 with rfl | rfl
    · exact ⟨_, rfl, rfl, _, rfl, iteT' (decide_eq_true rfl) ⟨_, rfl, rfl, rfl, dd, _, y, rfl, ho, rfl, q⟩⟩
    · exact ⟨_, rfl, rfl, _, rfl, iteF' (by rw [d_int]; exact decide_eq_false (by decide)) ⟨_, rfl, rfl, rfl, dd, _, y, rfl, ho, rfl, q⟩⟩

@[irreducible] def sp_law (K : PySem.W.Frag) : Sp := fun ws H Q _ => ∃ (a : Addr) (ns : List Int), ws = [.ref a] ∧ SqL K H a (ns.map V.int) ∧ ns.length ≤ 63 ∧ ∀ H', Q (.bl true) H'
def t_law_1a_2a_0 (K : PySem.W.Frag) (W : WX) (E : XK) : TS := (tDrop (tCallSD (sp_law_thrown K) [] (WE W) (tCons (tVar 2) (tCons (tVar 3) tNil))))

def t_law_1a_2h0_1 (K : PySem.W.Frag) (a : Addr) (cls : Value) (d : Option Addr) (E : XK) : TS := (tAsg (tAndV (tVar 4) (tCall (sp_law_equal 4 K) [] E0 (tCons (tCall (sp_law_field K a cls d) [] E0 (tCons (tVar 2) (tCons (tVar 5) tNil))) (tCons (tIf (tTest (tOp oGt (tVar 2) (tC (.int 4)))) (tVar 3) (tC .non)) tNil)))) (gName 4))

def t_law_1a_2h0_0 (K : PySem.W.Frag) (a : Addr) (cls : Value) (d : Option Addr) (E : XK) : TS := tSeq (tAsg (tAndV (tCB (rIsX K a cls d) (tCons (tVar 5) (tCons (tC (.ty "ValueError")) tNil))) (tOp (rEqD K) (tCall (sp_law_classes K a cls d) [] E0 (tCons (tVar 5) tNil)) (tLc (iRng1 (tCons (tC (.int 7)) tNil)) (gName 6) tYes (tOp rEq (tVar 6) (tVar 2)) [6]))) (gName 4)) (t_law_1a_2h0_1 K a cls d E)

def t_law_1a_3a_0 (K : PySem.W.Frag) (E : XK) : TS := (tRet (tC (.bl false)))

@[irreducible] def t_law_1a_3 (K : PySem.W.Frag) (E : XK) : TS := (tIfS (tNot (tB (tVar 4)))
    (t_law_1a_3a_0 K E) tNext)

@[irreducible] def t_law_1a_2 (K : PySem.W.Frag) (E : XK) : TS := tSeq (tTryAsF K (.ref (He.ga K "RhymeError")) 5 (fun W => (t_law_1a_2a_0 K W E)) (fun a cls d => (t_law_1a_2h0_0 K a cls d E))) (t_law_1a_3 K E)

def t_law_1a_1 (K : PySem.W.Frag) (E : XK) : TS := tSeq (tAsg (tC (.bl false)) (gName 4)) (t_law_1a_2 K E)

def t_law_1a_0 (K : PySem.W.Frag) (E : XK) : TS := tSeq (tAsg (tCall (sp_law_pick K) [] E0 (tCons (tVar 1) (tCons (tLst (tCons (tC (.str "a")) (tCons (tC (.str "")) (tCons (tC (.int 7)) (tCons (tC .non) (tCons (tTup (tCons (tC (.int 1)) tNil)) (tCons (tLst (tCons (tC (.int 2)) tNil)) tNil))))))) tNil))) (gName 3)) (t_law_1a_1 K E)

def t_law_2 (K : PySem.W.Frag) (E : XK) : TS := (tRet (tC (.bl true)))

@[irreducible] def t_law_1 (K : PySem.W.Frag) (E : XK) : TS := tSeq (tFor (iRng1 (tCons (tC (.int 7)) tNil)) (gName 2)
    (t_law_1a_0 K E)) (t_law_2 K E)

def t_law_0 (K : PySem.W.Frag) (E : XK) : TS := tSeq (tAsg (tCall (sp_law_random K) [] E0 (tCons (tVar 0) (tCons (tC (.int 912)) tNil))) (gName 1)) (t_law_1 K E)
def oneL : List PyData := [.str "a", .str "", .int 7, .none, .tuple [.int 1], .list [.int 2]]
theorem one_ok : ∀ e ∈ oneL, okF e = true ∧ same e e = true := by decide +kernel
theorem one_okD : ∀ e ∈ oneL, okD 3 e := by
  intro e he
  simp only [oneL, List.mem_cons, List.mem_nil_iff, or_false] at he
  rcases he with rfl | rfl | rfl | rfl | rfl | rfl
  · trivial
  · trivial
  · trivial
  · trivial
  · exact ⟨by decide, fun d hd => by rw [List.mem_singleton.mp hd]; trivial⟩
  · exact ⟨by decide, fun d hd => by rw [List.mem_singleton.mp hd]; trivial⟩
def bLk (k : Nat) : List PyData := (List.range 7).map fun j => PyData.bool (decide (j = k))
theorem bLk_ok {k : Nat} (h : k < 7) : SeqAt.shaped (.list (bLk k)) = true ∧ PyData.eqv (.list (bLk k)) (.list (bLk k)) = true := by
  obtain ⟨c, rfl⟩ : ∃ c : Fin 7, k = (c : Nat) := ⟨⟨k, h⟩, rfl⟩
  clear h
  revert c
  decide +kernel
theorem dpa_bls {K : PySem.W.Frag} {H : Hp} (f : Nat → Bool) : ∀ l : List Nat, DpAll K H (l.map fun j => V.bl (f j)) (l.map fun j => PyData.bool (f j))
  | [] => .nil
  | _ :: l => .cons (.bl _) (dpa_bls f l)
section
variable {K : PySem.W.Frag} {E : XK} {D : Ends} {H : Hp} {d a : Addr} {x0 : Option V}
theorem same_go {x : V} {e : PyData} {Q : VK} (hx : Dp K H x e) (ok : okD 3 e) (hs : same e e = true) (q : ∀ H', Ex H H' → Q (.bl true) H') : sp_law_equal 4 K [x, x] H Q E := by
  unfold sp_law_equal
  refine ⟨x, x, e, e, rfl, hx, hx, ok, fun H' ex => ?_⟩
  rw [hs]
  exact q H' ex
theorem suite_go {k : Nat} {y : V} {e : PyData} {od : Option Addr} {s6 : Option V} (T : ErrF K) (hk : k < 7) (hd : DicT od H) (hf : 5 ≤ k → ∃ dd, od = some dd ∧ H dd = some (.xd [(fldN k, y)])) (hy : Dp K H y e) (he : e ∈ oneL)
    (kk : ∀ H', Ex H H' → D.nx [x0, some (.ref d), some (.int (k : Nat)), some y, some (.bl true), some (.ref a), s6] H') :
    t_law_1a_2h0_0 K a (.ref (errA K k)) od E D [x0, some (.ref d), some (.int (k : Nat)), some y, some (.bl false), some (.ref a), s6] H := by
  refine ⟨_, rfl, errA K k, .ty "ValueError", .type "ValueError", true, rfl, T.ex k hk, rfl, .ty _, T.ve k hk, hd, true, rfl, iteT' rfl ?_⟩
  refine ⟨_, rfl, ?_⟩
  unfold sp_law_classes
  refine ⟨k, rfl, hk, rfl, hd, fun p H1 e1 hp => ?_⟩
  refine ⟨7, rfl, by decide, by decide, fun L hL => lc_map walk_range (fun i => .bl (decide (i = k))) hL (by decide) (fun _ _ => trivial) ?_ ?_⟩
  · rintro i x H3 H4 hi ex ⟨rfl, rfl⟩ Q Zf q
    refine ⟨rfl, iteT (B := Zf H4) ?_⟩
    refine ⟨_, rfl, _, rfl, rfl, ?_⟩
    have ed : decide (V.int (0 + (i : Int)) = V.int (k : Int)) = decide (i = k) := by
      rw [d_int]
      by_cases c : i = k
      · rw [decide_eq_true c, decide_eq_true (by omega)]
      · rw [decide_eq_false c, decide_eq_false (by omega)]
    rw [ed]
    exact q H4 (ex_refl _)
  · intro H3 e3 h3
    obtain ⟨sh, ev⟩ := bLk_ok hk
    have dp : ∀ {H' : Hp} {z : Addr}, H' z = some (.lst ((List.range 7).map fun j => V.bl (decide (j = k)))) → Dp K H' (.ref z) (.list (bLk k)) := fun {H' z} h => .lst (SqL.of h) (dpa_bls (fun j => decide (j = k)) (List.range 7))
    refine ⟨.list (bLk k), .list (bLk k), dp (e3 _ _ hp), dp h3, sh, sh, ?_⟩
    rw [ev]
    have e13 := ex_trans e1 e3
    show t_law_1a_2h0_1 K a (.ref (errA K k)) od E D [x0, some (.ref d), some (.int (k : Nat)), some y, some (.bl true), some (.ref a), s6] H3
    refine ⟨_, rfl, true, rfl, iteT' rfl ?_⟩
    refine ⟨_, rfl, _, rfl, ?_⟩
    unfold sp_law_field
    refine ⟨k, y, rfl, hk, rfl, fun h5 => ?_, fun h5 => ?_⟩
    · refine ⟨_, rfl, _, _, rfl, rfl, _, rfl, iteF' (decide_eq_false (by omega)) ?_⟩
      exact same_go (e := .none) .non trivial rfl fun H4 e4 => kk H4 (ex_trans e13 e4)
    · obtain ⟨dd, h1, h2⟩ := hf h5
      refine ⟨dd, h1, e13 _ _ h2, ?_⟩
      refine ⟨_, rfl, _, _, rfl, rfl, _, rfl, iteT' (decide_eq_true (by omega)) ⟨_, rfl, ?_⟩⟩
      exact same_go (dp_ex e13 hy) (one_okD e he) (one_ok e he).2 fun H4 e4 => kk H4 (ex_trans e13 e4)
theorem law_1a {k : Nat} {s3 s4 s5 s6 : Option V} (T : ErrF K) (hk : k < 7) (hD : DSt H d) (kk : ∀ (y : V) (H' : Hp), DSt H' d → D.nx [x0, some (.ref d), some (.int (k : Nat)), some y, some (.bl true), none, s6] H') :
    t_law_1a_0 K E D [x0, some (.ref d), some (.int (k : Nat)), s3, s4, s5, s6] H := by
  have nn : H d ≠ none := by
    obtain ⟨zs, h⟩ := dst_l hD
    rw [h]
    exact fun z => nomatch z
  have A : LitA d K (tCons (tC (.str "a")) (tCons (tC (.str "")) (tCons (tC (.int 7)) (tCons (tC .non) (tCons (tTup (tCons (tC (.int 1)) tNil)) (tCons (tLst (tCons (tC (.int 2)) tNil)) tNil)))))) oneL := by
    unfold oneL
    walk_at "lits"
  refine ⟨_, rfl, ?_⟩
  refine lstA_go1 (es := oneL) A nn (by decide) fun xs H1 p e1 hxs nxs np npd => ?_
  have lx : xs.length = 6 := dpa_len hxs
  have e2 := ex_trans e1 (ex_new (o := .lst xs) np)
  refine pickO_go (d := d) (p := p) (es := oneL) (dst_ex e2 hD) upd_same npd (fun z => by rw [z] at lx; cases lx) (by rw [lx]; decide) (dpa_ex (ex_new np) hxs) nxs (fun e he => (one_ok e he).1) fun y e H3 me hy nyd hD3 f3 => ?_
  show t_law_1a_1 K E D [x0, some (.ref d), some (.int (k : Nat)), some y, s4, s5, s6] H3
  show t_law_1a_2 K E D [x0, some (.ref d), some (.int (k : Nat)), some y, some (.bl false), s5, s6] H3
  unfold t_law_1a_2
  have rest : ∀ H', Ex H3 H' → t_law_1a_3 K E D [x0, some (.ref d), some (.int (k : Nat)), some y, some (.bl true), none, s6] H' := fun H' e' => by
    unfold t_law_1a_3
    exact if_go false (fun Q q => ⟨_, rfl, true, rfl, q⟩) (fun z => nomatch z) fun _ => kk y H' (dst_ex e' hD3)
  refine ⟨_, rfl, _, rfl, ?_⟩
  unfold sp_law_thrown
  refine ⟨k, y, rfl, hk, fun h5 => ⟨true, T.re k hk, fun _ a na => ?_, fun z => nomatch z⟩, fun h5 dd nd => ⟨true, T.re k hk, fun _ a na => ?_, fun z => nomatch z⟩⟩
  · exact suite_go (e := e) T hk (.inl rfl) (fun z => absurd z (by omega)) hy me fun H' e' => rest H' e'
  · have ed := ex_new (o := .xd [(fldN k, y)]) nd
    exact suite_go (e := e) T hk (.inr ⟨dd, _, rfl, upd_same⟩) (fun _ => ⟨dd, rfl, upd_same⟩) (dp_ex ed hy) me fun H' e' => rest H' (ex_trans ed e')
end
theorem pure_law {K : PySem.W.Frag} (T : ErrF K) (ws : List V) (H : Hp) (Q : VK) (E : XK) (h : sp_law K ws H Q E) :
    t_law_0 K E { nx := fun _ H' => Q .non H', rt := Q } (start ["_law_script", "_law_d", "_law_k", "_law_one", "_law_good", "_law_e", "_law_other"] ws) H := by
  unfold sp_law at h
  obtain ⟨b0, ns, rfl, hS, hn, k⟩ := h
  show t_law_0 K E _ [some (.ref b0), none, none, none, none, none, none] H
  refine ⟨_, rfl, ?_⟩
  unfold sp_law_random
  refine ⟨b0, ns, 912, rfl, hS, hn, by decide, by decide, fun d H1 hd e1 hD => ?_⟩
  show t_law_1 K E _ [some (.ref b0), some (.ref d), none, none, none, none, none] H1
  unfold t_law_1
  refine ⟨7, rfl, by decide, by decide, for_range (fun i σ H' => DSt H' d ∧ ∃ s2 s3 s4 s6, σ = [some (.ref b0), some (.ref d), s2, s3, s4, none, s6]) ⟨hD, _, _, _, _, rfl⟩ ?_ ?_⟩
  · rintro i σ H2 hi ⟨hD2, s2, s3, s4, s6, rfl⟩
    show t_law_1a_0 K E _ [some (.ref b0), some (.ref d), some (.int (0 + (i : Int))), s3, s4, none, s6] H2
    rw [Int.zero_add]
    exact law_1a T hi hD2 fun y H' hD' => ⟨hD', _, _, _, _, rfl⟩
  · rintro σ H2 ⟨hD2, s2, s3, s4, s6, rfl⟩
    exact k H2
theorem law_pre {K : PySem.W.Frag} {H : Hp} (a : Addr) (ns : List Int) (hS : SqL K H a (ns.map V.int)) (hn : ns.length ≤ 63) : sp_law K [.ref a] H (fun v _ => v = .bl true) fun _ _ _ => False := by
  unfold sp_law
  exact ⟨a, ns, rfl, hS, hn, fun _ => rfl⟩

end Z
namespace Z
open PySem PySem.Spec PyProof.Rows L2
local macro_rules | `(tactic| walk_at "len") => `(tactic| repeat (first | (obtain ⟨rfl, _⟩ := ‹_ ∧ _›; rfl) | (rename_i h; obtain ⟨_, h⟩ := h)))
def top (i : Nat) : Stmt := PySem.Challenge.pw_outrhymes_k12_errors_apart.main.body.getD i (.Pass ⟨0, 0, 0, 0⟩)
abbrev s_law_random : Stmt := top 10
abbrev s_law_below : Stmt := top 11
abbrev s_law_pick : Stmt := top 12
abbrev s_law_thrown : Stmt := top 14
abbrev s_law_classes : Stmt := top 15
abbrev s_law_equal : Stmt := top 13
abbrev s_law_field : Stmt := top 16
abbrev s_law : Stmt := top 17
theorem sc_law_random : FnScope ["_law_script", "_law_salt", "_law_seed", "_law_cell"] ["_law_script", "_law_salt"] (defScope s_law_random) := ⟨rfl, rfl, rfl, by decide +kernel, rfl, by decide +kernel, by decide +kernel⟩
theorem sc_law_below : FnScope ["_law_d", "_law_size", "_law_result"] ["_law_d", "_law_size"] (defScope s_law_below) := ⟨rfl, rfl, rfl, by decide +kernel, rfl, by decide +kernel, by decide +kernel⟩
theorem sc_law_pick : FnScope ["_law_d", "_law_items"] ["_law_d", "_law_items"] (defScope s_law_pick) := ⟨rfl, rfl, rfl, by decide +kernel, rfl, by decide +kernel, by decide +kernel⟩
theorem sc_law_thrown : FnScope ["_law_k", "_law_one"] ["_law_k", "_law_one"] (defScope s_law_thrown) := ⟨rfl, rfl, rfl, by decide +kernel, rfl, by decide +kernel, by decide +kernel⟩
theorem sc_law_classes : FnScope ["_law_e", "_law_found"] ["_law_e"] (defScope s_law_classes) := ⟨rfl, rfl, rfl, by decide +kernel, rfl, by decide +kernel, by decide +kernel⟩
theorem sc_law_equalH : FnScope ["_law_actual", "_law_expected", "_law_key", "_law_k"] ["_law_actual", "_law_expected"] (defScope s_law_equal) := ⟨rfl, rfl, rfl, by decide +kernel, rfl, by decide +kernel, by decide +kernel⟩
theorem sc_law_field : FnScope ["_law_k", "_law_e"] ["_law_k", "_law_e"] (defScope s_law_field) := ⟨rfl, rfl, rfl, by decide +kernel, rfl, by decide +kernel, by decide +kernel⟩
theorem sc_law : FnScope ["_law_script", "_law_d", "_law_k", "_law_one", "_law_good", "_law_e", "_law_other"] ["_law_script"] (defScope s_law) := ⟨rfl, rfl, rfl, by decide +kernel, rfl, by decide +kernel, by decide +kernel⟩
abbrev s_BadVersesu_initu : Stmt := inClass (top 2) 0
abbrev d_BadVersesu_initu : SupD := ⟨"BadVerses", "index", "BadVerses.__init__", s_BadVersesu_initu⟩
abbrev s_InvalidLineu_initu : Stmt := inClass (top 8) 0
abbrev d_InvalidLineu_initu : SupD := ⟨"InvalidLine", "line", "InvalidLine.__init__", s_InvalidLineu_initu⟩
structure Tw (K : PySem.W.Frag) (mg : Str → Option Value) : Prop where
  x_AtEnd : XcK K mg "AtEnd"
  x_BadChild : XcK K mg "BadChild"
  x_BadLeft : XcK K mg "BadLeft"
  x_BadNumber : XcK K mg "BadNumber"
  x_BadTurn : XcK K mg "BadTurn"
  f_ValueError : mg "ValueError" = none
  f_abs : mg "abs" = none
  f_all : mg "all" = none
  f_bool : mg "bool" = none
  f_dict : mg "dict" = none
  f_int : mg "int" = none
  f_isinstance : mg "isinstance" = none
  f_len : mg "len" = none
  f_list : mg "list" = none
  f_range : mg "range" = none
  f_str : mg "str" = none
  f_super : mg "super" = none
  f_tuple : mg "tuple" = none
  g_AtEnd : mg "AtEnd" = some (.ref (He.ga K "AtEnd"))
  g_BadChild : mg "BadChild" = some (.ref (He.ga K "BadChild"))
  g_BadLeft : mg "BadLeft" = some (.ref (He.ga K "BadLeft"))
  g_BadNumber : mg "BadNumber" = some (.ref (He.ga K "BadNumber"))
  g_BadTurn : mg "BadTurn" = some (.ref (He.ga K "BadTurn"))
  g_BadVerses : mg "BadVerses" = some (.ref (He.ga K "BadVerses"))
  g_InvalidLine : mg "InvalidLine" = some (.ref (He.ga K "InvalidLine"))
  g_RhymeError : mg "RhymeError" = some (.ref (He.ga K "RhymeError"))
  d_law_random : mg "_law_random" = some (.ref (He.ga K "_law_random"))
  d_law_below : mg "_law_below" = some (.ref (He.ga K "_law_below"))
  d_law_pick : mg "_law_pick" = some (.ref (He.ga K "_law_pick"))
  d_law_thrown : mg "_law_thrown" = some (.ref (He.ga K "_law_thrown"))
  d_law_classes : mg "_law_classes" = some (.ref (He.ga K "_law_classes"))
  d_law_equalH : mg "_law_equal" = some (.ref (He.ga K "_law_equal"))
  d_law_field : mg "_law_field" = some (.ref (He.ga K "_law_field"))
  d_law : mg "law" = some (.ref (He.ga K "law"))
  er : ErrF K
  s_BadVerses : SupF K d_BadVersesu_initu "/claim/cut.py"
  s_InvalidLine : SupF K d_InvalidLineu_initu "/claim/cut.py"
section
variable {P : Program} {w : World} {K : PySem.W.Frag} {mg : Str → Option Value} {base : Heap}
theorem oks_BadVerses (T : Tw K mg) (hfile : ((P.main.file : Str) == "/claim/cut.py") = true) (htop : (P.main.scope.names.lookup ("super" : Str)).isSome = false) : XsK P w K mg base 1 "BadVerses" "index" :=
  xsK_of (par := "index") (d := d_BadVersesu_initu) T.s_BadVerses T.g_BadVerses hfile htop T.f_super (fun env => ⟨_, rfl⟩) (NdefX.nscope_by (by decide +kernel)) (by decide +kernel) (by decide +kernel) rfl (fun _ _ _ _ _ _ _ _ _ => rfl) (by decide) (by decide)
theorem oks_InvalidLine (T : Tw K mg) (hfile : ((P.main.file : Str) == "/claim/cut.py") = true) (htop : (P.main.scope.names.lookup ("super" : Str)).isSome = false) : XsK P w K mg base 1 "InvalidLine" "line" :=
  xsK_of (par := "line") (d := d_InvalidLineu_initu) T.s_InvalidLine T.g_InvalidLine hfile htop T.f_super (fun env => ⟨_, rfl⟩) (NdefX.nscope_by (by decide +kernel)) (by decide +kernel) (by decide +kernel) rfl (fun _ _ _ _ _ _ _ _ _ => rfl) (by decide) (by decide)
theorem ok_law_random (T : Tw K mg)  (F : ∃ fd, FnT K "_law_random" "_law_random" s_law_random [] (He.ga K "_law_random") fd) : Cl P w K mg base 1 "_law_random" (sp_law_random K) [] := by
  refine cl_of F T.d_law_random sc_law_random (fun vs H Q E h => ?_) (fun _ _ _ _ _ _ us hl => match us, hl with | [_, _], _ => rfl) (fun cdv A outer s H vs Q E hr h => ?_)
  · unfold sp_law_random at h
    repeat (first | (obtain ⟨rfl, _⟩ := h; rfl) | (obtain ⟨_, h⟩ := h))
  · have nd := sc_law_random.nd
    exact ⟨_, (pss_cons (ps_set (i := 2) nd rfl (Or.inl rfl) (pv 1))
      (pss_cons (ps_for ownsE rfl (pi_list (pv 0)) (pg_name (i := 3) nd rfl (Or.inl rfl))
      (pss_one (ps_set (i := 2) nd rfl (Or.inl rfl) (pe_op op_mod (pe_callTy call_int1 rfl T.f_int (by decide +kernel) (pa_cons (pe_op op_add (pe_op op_mul (pv 2) pe_int) (pe_callB call_abs rfl T.f_abs (by decide +kernel) (pa_cons (pv 3) pa_nil))) pa_nil)) pe_int))))
      (pss_one (ps_ret (pe_op op_cat (pe_lst (pa_cons (pv 2) (pa_cons pe_int pa_nil))) (pe_lc (own := [("_law_cell", 3)]) (g := (gName 3)) (tt := (tTest (tOp oGe (tVar 3) (tOp oPow (tC (.int 10)) (tC (.int 18)))))) (te := (tVar 3)) rfl nd (pi_list (pv 0)) (blkOk_by (N := ["_law_script", "_law_salt", "_law_seed", "_law_cell"]) (sc := defScope s_law_random) (by decide +kernel)) (fun _ _ _ _ _ => (pg_name (i := 3) nd rfl (Or.inl rfl))) (fun _ _ _ _ _ => (pts_one (pt_cmpR op_ge (pv 3) (pe_op op_pow pe_int pe_int) (nomark _)))) (fun _ _ _ _ _ => (pv 3)))))))), by with_unfolding_all exact pure_law_random  vs H Q E h⟩
theorem ok_law_below (T : Tw K mg)  (F : ∃ fd, FnT K "_law_below" "_law_below" s_law_below [] (He.ga K "_law_below") fd) : Cl P w K mg base 1 "_law_below" (sp_law_below K) [] := by
  refine cl_of F T.d_law_below sc_law_below (fun vs H Q E h => ?_) (fun _ _ _ _ _ _ us hl => match us, hl with | [_, _], _ => rfl) (fun cdv A outer s H vs Q E hr h => ?_)
  · unfold sp_law_below at h
    repeat (first | (obtain ⟨rfl, _⟩ := h; rfl) | (obtain ⟨_, h⟩ := h))
  · have nd := sc_law_below.nd
    exact ⟨_, (pss_cons (ps_if (PW.pt (pw_and (pt_cmpR op_eq (pe_ix ix_list (pv 0) pe_int (fun _ _ => rfl)) pe_int (nomark _)) (pw_and1 (pt_cmpR op_gt (pe_callB call_len_seq rfl T.f_len (by decide +kernel) (pa_cons (pv 0) pa_nil)) pe_int (nomark _))))) (pss_one (ps_asg (pe_bm PySem.F.plainAttrs_list PySem.F.slot_list_pop PySem.F.type_list_pop mt_popAt (pv 0) (pa_cons pe_int pa_nil)) (pg_sub (pv 0) pe_int set_list))) pss_nil)
      (pss_cons (ps_if (pt_cmpR op_gt (pe_ix ix_list (pv 0) pe_int (fun _ _ => rfl)) pe_int (nomark _)) (pss_cons (ps_set (i := 2) nd rfl (Or.inl rfl) (pe_op op_mod (pe_callTy call_int1 rfl T.f_int (by decide +kernel) (pa_cons (pe_ix ix_list (pv 0) pe_int (fun _ _ => rfl)) pa_nil)) (pv 1)))
      (pss_cons (ps_asg (pe_op op_fdivW (pe_ix ix_list (pv 0) pe_int (fun _ _ => rfl)) (pv 1)) (pg_sub (pv 0) pe_int set_list))
      (pss_one (ps_ret (pv 2))))) pss_nil)
      (pss_cons (ps_asg (pe_op op_mod (pe_callTy call_int1 rfl T.f_int (by decide +kernel) (pa_cons (pe_op op_add (pe_op op_mul (pe_ix ix_list (pv 0) pe_int (fun _ _ => rfl)) pe_int) pe_int) pa_nil)) pe_int) (pg_sub (pv 0) pe_int set_list))
      (pss_one (ps_ret (pe_op op_mod (pe_callTy call_int1 rfl T.f_int (by decide +kernel) (pa_cons (pe_op op_fdiv (pe_ix ix_list (pv 0) pe_int (fun _ _ => rfl)) pe_int) pa_nil)) (pv 1))))))), by with_unfolding_all exact pure_law_below  vs H Q E h⟩
theorem ok_law_pick (T : Tw K mg) (c_law_below : Cl P w K mg base 1 "_law_below" (sp_law_below K) []) (F : ∃ fd, FnT K "_law_pick" "_law_pick" s_law_pick [] (He.ga K "_law_pick") fd) : Cl P w K mg base 2 "_law_pick" (sp_law_pick K) [] := by
  refine cl_of F T.d_law_pick sc_law_pick (fun vs H Q E h => ?_) (fun _ _ _ _ _ _ us hl => match us, hl with | [_, _], _ => rfl) (fun cdv A outer s H vs Q E hr h => ?_)
  · unfold sp_law_pick at h
    repeat (first | (obtain ⟨rfl, _⟩ := h; rfl) | (obtain ⟨_, h⟩ := h))
  · have nd := sc_law_pick.nd
    exact ⟨_, (pss_one (ps_ret (pe_ix ix_list (pv 1) (pe_cl c_law_below hr (by omega) rfl passL (pa_cons (pv 0) (pa_cons (pe_callB call_len_seq rfl T.f_len (by decide +kernel) (pa_cons (pv 1) pa_nil)) pa_nil))) (fun _ _ => rfl)))), by with_unfolding_all exact pure_law_pick  vs H Q E h⟩
theorem ok_law_thrown (T : Tw K mg)  (c_sBadVerses : XsK P w K mg base 1 "BadVerses" "index") (c_sInvalidLine : XsK P w K mg base 1 "InvalidLine" "line") (F : ∃ fd, FnT K "_law_thrown" "_law_thrown" s_law_thrown [] (He.ga K "_law_thrown") fd) : ClN P w K mg base 3 "_law_thrown" (sp_law_thrown K) := by
  refine clN_of F T.d_law_thrown sc_law_thrown (fun vs H Q E h => ?_) (fun _ _ _ _ _ _ us hl => match us, hl with | [_, _], _ => rfl) (fun cdv A outer s H vs Q E hr h => ?_)
  · unfold sp_law_thrown at h
    repeat (first | (obtain ⟨rfl, _⟩ := h; rfl) | (obtain ⟨_, h⟩ := h))
  · have nd := sc_law_thrown.nd
    exact ⟨_, (pss_cons (ps_if (pt_cmpR op_eq (pv 0) pe_int (nomark _)) (pss_one (L2N.ps_raise rfl takesEN (pmk_own0N T.x_BadLeft rfl))) pss_nil)
      (pss_cons (ps_if (pt_cmpR op_eq (pv 0) pe_int (nomark _)) (pss_one (L2N.ps_raise rfl takesEN (pmk_own0N T.x_BadNumber rfl))) pss_nil)
      (pss_cons (ps_if (pt_cmpR op_eq (pv 0) pe_int (nomark _)) (pss_one (L2N.ps_raise rfl takesEN (pmk_own0N T.x_BadTurn rfl))) pss_nil)
      (pss_cons (ps_if (pt_cmpR op_eq (pv 0) pe_int (nomark _)) (pss_one (L2N.ps_raise rfl takesEN (pmk_own0N T.x_BadChild rfl))) pss_nil)
      (pss_cons (ps_if (pt_cmpR op_eq (pv 0) pe_int (nomark _)) (pss_one (L2N.ps_raise rfl takesEN (pmk_own0N T.x_AtEnd rfl))) pss_nil)
      (pss_cons (ps_if (pt_cmpR op_eq (pv 0) pe_int (nomark _)) (pss_one (L2N.ps_raise rfl takesEN (pmk_fldN c_sBadVerses hr (by omega) rfl (pa_cons (pv 1) pa_nil)))) pss_nil)
      (pss_one (L2N.ps_raise rfl takesEN (pmk_fldN c_sInvalidLine hr (by omega) rfl (pa_cons (pv 1) pa_nil)))))))))), by with_unfolding_all exact pure_law_thrown  vs H Q E h⟩
theorem ok_law_classes (T : Tw K mg)  (F : ∃ fd, FnT K "_law_classes" "_law_classes" s_law_classes [] (He.ga K "_law_classes") fd) : ClE P w K mg base 1 "_law_classes" (sp_law_classes K) := by
  refine clE_of F T.d_law_classes sc_law_classes (fun a cls d vs H Q E h => ?_) (fun _ _ _ _ _ _ us hl => match us, hl with | [_], _ => rfl) (fun cdv A outer s H vs Q E p a cls d hot hr h => ?_)
  · unfold sp_law_classes at h
    repeat (first | (obtain ⟨rfl, _⟩ := h; rfl) | (obtain ⟨_, h⟩ := h))
  · have nd := sc_law_classes.nd
    exact ⟨_, (pss_cons (ps_set (i := 1) nd rfl (Or.inl rfl) (pe_lst (pa_cons (pe_callB (id := "isinstance") (call_isX hot) rfl T.f_isinstance (by decide +kernel) (pa_cons (pv 0) (pa_cons (C8.pe_gc (v := .ref (He.ga K "BadLeft")) rfl ⟨_, T.g_BadLeft, rfl⟩) pa_nil))) (pa_cons (pe_callB (id := "isinstance") (call_isX hot) rfl T.f_isinstance (by decide +kernel) (pa_cons (pv 0) (pa_cons (C8.pe_gc (v := .ref (He.ga K "BadNumber")) rfl ⟨_, T.g_BadNumber, rfl⟩) pa_nil))) (pa_cons (pe_callB (id := "isinstance") (call_isX hot) rfl T.f_isinstance (by decide +kernel) (pa_cons (pv 0) (pa_cons (C8.pe_gc (v := .ref (He.ga K "BadTurn")) rfl ⟨_, T.g_BadTurn, rfl⟩) pa_nil))) (pa_cons (pe_callB (id := "isinstance") (call_isX hot) rfl T.f_isinstance (by decide +kernel) (pa_cons (pv 0) (pa_cons (C8.pe_gc (v := .ref (He.ga K "BadChild")) rfl ⟨_, T.g_BadChild, rfl⟩) pa_nil))) pa_nil))))))
      (pss_one (ps_ret (pe_op op_cat (pv 1) (pe_lst (pa_cons (pe_callB (id := "isinstance") (call_isX hot) rfl T.f_isinstance (by decide +kernel) (pa_cons (pv 0) (pa_cons (C8.pe_gc (v := .ref (He.ga K "AtEnd")) rfl ⟨_, T.g_AtEnd, rfl⟩) pa_nil))) (pa_cons (pe_callB (id := "isinstance") (call_isX hot) rfl T.f_isinstance (by decide +kernel) (pa_cons (pv 0) (pa_cons (C8.pe_gc (v := .ref (He.ga K "BadVerses")) rfl ⟨_, T.g_BadVerses, rfl⟩) pa_nil))) (pa_cons (pe_callB (id := "isinstance") (call_isX hot) rfl T.f_isinstance (by decide +kernel) (pa_cons (pv 0) (pa_cons (C8.pe_gc (v := .ref (He.ga K "InvalidLine")) rfl ⟨_, T.g_InvalidLine, rfl⟩) pa_nil))) pa_nil)))))))), by with_unfolding_all exact pure_law_classes T.er vs H Q E h⟩
theorem ok_law_equalH0 (T : Tw K mg) (F : ∃ fd, FnT K "_law_equal" "_law_equal" s_law_equal [] (He.ga K "_law_equal") fd) : ∀ n, ClE P w K mg base n "_law_equal" (fun _ _ _ => sp_law_equal n K)
  | 0 => clE_none (ps := ["_law_actual", "_law_expected"]) F T.d_law_equalH (fun a cls d vs H Q E h => by
    have h : sp_law_equal 0 K vs H Q E := h
    unfold sp_law_equal at h
    exact h) (fun _ _ _ _ _ _ us hl => match us, hl with | [_, _], _ => rfl)
  | n + 1 => by
    have c_law_equalH := ok_law_equalH0 T F n
    refine clE_of F T.d_law_equalH sc_law_equalH (fun a cls d vs H Q E h => ?_) (fun _ _ _ _ _ _ us hl => match us, hl with | [_, _], _ => rfl) (fun cdv A outer s H vs Q E p a cls d hot hr h => ?_)
    · have h : sp_law_equal (n + 1) K vs H Q E := h
      unfold sp_law_equal at h
      obtain ⟨x, y, d, e, rfl, _⟩ := h
      rfl
    · have nd := sc_law_equalH.nd
      have h : sp_law_equal (n + 1) K vs H Q E := h
      exact ⟨_, (pss_cons (ps_if (pt_cmpR op_isN (pv 1) pe_non (nomark _)) (pss_one (ps_ret (pe_cmpR op_isN (pv 0) pe_non (nomark _)))) pss_nil)
      (pss_cons (ps_if (pt_val (pe_callB call_isi rfl T.f_isinstance (by decide +kernel) (pa_cons (pv 1) (pa_cons (pe_bltn (v := .ty "bool") (u := .type "bool") rfl T.f_bool (by decide +kernel) rfl) pa_nil)))) (pss_one (ps_ret (pe_and (pe_callB call_isi rfl T.f_isinstance (by decide +kernel) (pa_cons (pv 0) (pa_cons (pe_bltn (v := .ty "bool") (u := .type "bool") rfl T.f_bool (by decide +kernel) rfl) pa_nil))) (pe_one (pe_cmpR op_eq (pv 0) (pv 1) (nomark _)))))) pss_nil)
      (pss_cons (ps_if (pt_val (pe_callB call_isi rfl T.f_isinstance (by decide +kernel) (pa_cons (pv 1) (pa_cons (pe_bltn (v := .ty "int") (u := .type "int") rfl T.f_int (by decide +kernel) rfl) pa_nil)))) (pss_one (ps_ret (pe_and (pe_callB call_isi rfl T.f_isinstance (by decide +kernel) (pa_cons (pv 0) (pa_cons (pe_bltn (v := .ty "int") (u := .type "int") rfl T.f_int (by decide +kernel) rfl) pa_nil))) (pe_and (pe_not (pe_callB call_isi rfl T.f_isinstance (by decide +kernel) (pa_cons (pv 0) (pa_cons (pe_bltn (v := .ty "bool") (u := .type "bool") rfl T.f_bool (by decide +kernel) rfl) pa_nil)))) (pe_one (pe_cmpR op_eq (pv 0) (pv 1) (nomark _))))))) pss_nil)
      (pss_cons (ps_if (pt_val (pe_callB call_isi rfl T.f_isinstance (by decide +kernel) (pa_cons (pv 1) (pa_cons (pe_bltn (v := .ty "str") (u := .type "str") rfl T.f_str (by decide +kernel) rfl) pa_nil)))) (pss_one (ps_ret (pe_and (pe_callB call_isi rfl T.f_isinstance (by decide +kernel) (pa_cons (pv 0) (pa_cons (pe_bltn (v := .ty "str") (u := .type "str") rfl T.f_str (by decide +kernel) rfl) pa_nil))) (pe_one (pe_cmpR op_eq (pv 0) (pv 1) (nomark _)))))) pss_nil)
      (pss_cons (ps_if (pt_val (pe_callB call_isi rfl T.f_isinstance (by decide +kernel) (pa_cons (pv 1) (pa_cons (pe_bltn (v := .ty "dict") (u := .type "dict") rfl T.f_dict (by decide +kernel) rfl) pa_nil)))) (pss_cons ps_never
      (pss_one ps_never)) pss_nil)
      (pss_cons (ps_if (pt_cmpR op_ne (pe_callB call_isi rfl T.f_isinstance (by decide +kernel) (pa_cons (pv 1) (pa_cons (pe_bltn (v := .ty "tuple") (u := .type "tuple") rfl T.f_tuple (by decide +kernel) rfl) pa_nil))) (pe_callB call_isi rfl T.f_isinstance (by decide +kernel) (pa_cons (pv 0) (pa_cons (pe_bltn (v := .ty "tuple") (u := .type "tuple") rfl T.f_tuple (by decide +kernel) rfl) pa_nil))) (nomark _)) (pss_one (ps_ret pe_bl)) pss_nil)
      (pss_cons (ps_if (pt_cmpR op_ne (pe_callB call_isi rfl T.f_isinstance (by decide +kernel) (pa_cons (pv 1) (pa_cons (pe_bltn (v := .ty "list") (u := .type "list") rfl T.f_list (by decide +kernel) rfl) pa_nil))) (pe_callB call_isi rfl T.f_isinstance (by decide +kernel) (pa_cons (pv 0) (pa_cons (pe_bltn (v := .ty "list") (u := .type "list") rfl T.f_list (by decide +kernel) rfl) pa_nil))) (nomark _)) (pss_one (ps_ret pe_bl)) pss_nil)
      (pss_cons (ps_if (pt_cmpR op_ne (pe_callB call_len_seq rfl T.f_len (by decide +kernel) (pa_cons (pv 0) pa_nil)) (pe_callB call_len_seq rfl T.f_len (by decide +kernel) (pa_cons (pv 1) pa_nil)) (nomark _)) (pss_one (ps_ret pe_bl)) pss_nil)
      (pss_one (ps_ret (pe_callB (cr_allH (HotP.c hot)) rfl T.f_all (by decide +kernel) (pa_cons (pe_lcH (own := [("_law_k", 3)]) (g := (gName 3)) (tt := tYes) (te := (tCall (sp_law_equal n K) [] E0 (tCons (tOp (rIxA K) (tVar 0) (tVar 3)) (tCons (tOp (rIxA K) (tVar 1) (tVar 3)) tNil)))) (HotP.c hot) nd (L2H.pi_range1H rfl T.f_range (pa_cons (pe_callB call_len_seq rfl T.f_len (by decide +kernel) (pa_cons (pv 1) pa_nil)) pa_nil)) (blkOk_by (N := ["_law_actual", "_law_expected", "_law_key", "_law_k"]) (sc := defScope s_law_equal) (by decide +kernel)) (fun _ _ _ _ _ => (pg_name (i := 3) nd rfl (Or.inl rfl))) (fun _ _ _ _ _ => pts_nil) (fun _ _ _ _ _ => (pe_clE0 c_law_equalH hot hr (by omega) rfl (pa_cons (pe_ix ix_any (pv 0) (pv 3) (fun _ _ => rfl)) (pa_cons (pe_ix ix_any (pv 1) (pv 3) (fun _ _ => rfl)) pa_nil))))) pa_nil)))))))))))), by with_unfolding_all exact pure_law_equalH vs h⟩
theorem ok_law_equalH (T : Tw K mg) (F : ∃ fd, FnT K "_law_equal" "_law_equal" s_law_equal [] (He.ga K "_law_equal") fd) : ClE P w K mg base 4 "_law_equal" (fun _ _ _ => sp_law_equal 4 K) := ok_law_equalH0 T F 4
theorem ok_law_field (T : Tw K mg)  (F : ∃ fd, FnT K "_law_field" "_law_field" s_law_field [] (He.ga K "_law_field") fd) : ClE P w K mg base 1 "_law_field" (sp_law_field K) := by
  refine clE_of F T.d_law_field sc_law_field (fun a cls d vs H Q E h => ?_) (fun _ _ _ _ _ _ us hl => match us, hl with | [_, _], _ => rfl) (fun cdv A outer s H vs Q E p a cls d hot hr h => ?_)
  · unfold sp_law_field at h
    repeat (first | (obtain ⟨rfl, _⟩ := h; rfl) | (obtain ⟨_, h⟩ := h))
  · have nd := sc_law_field.nd
    exact ⟨_, (pss_cons (ps_if (pt_cmpR op_lt (pv 0) pe_int (nomark _)) (pss_one (ps_ret pe_non)) pss_nil)
      (pss_one (ps_ret (pe_ifExp (pt_cmpR op_eq (pv 0) pe_int (nomark _)) (pe_xfH T.s_BadVerses.xf T.s_BadVerses.no hot (pv 1)) (pe_xfH T.s_InvalidLine.xf T.s_InvalidLine.no hot (pv 1)))))), by with_unfolding_all exact pure_law_field  vs H Q E h⟩
theorem okf_law {fd : FuncData} (T : Tw K mg) (c_law_random : Cl P w K mg base 1 "_law_random" (sp_law_random K) []) (c_law_pick : Cl P w K mg base 2 "_law_pick" (sp_law_pick K) []) (c_law_thrown : ClN P w K mg base 3 "_law_thrown" (sp_law_thrown K)) (c_law_classes : ClE P w K mg base 1 "_law_classes" (sp_law_classes K)) (c_law_equalH : ClE P w K mg base 4 "_law_equal" (fun _ _ _ => sp_law_equal 4 K)) (c_law_field : ClE P w K mg base 1 "_law_field" (sp_law_field K)) (F : FnT K "law" "law" s_law [] (He.ga K "law") fd) : FnOk P w K mg base (L2.CX P w) 5 (He.ga K "law") fd ["_law_script"] (sp_law K) := by
  refine F.ok sc_law (fun vs H Q E h => ?_) (fun cdv A outer s H vs Q E hr h => ?_)
  · unfold sp_law at h
    repeat (first | (obtain ⟨rfl, _⟩ := h; rfl) | (obtain ⟨_, h⟩ := h))
  · have nd := sc_law.nd
    exact ⟨_, (pss_cons (ps_set (i := 1) nd rfl (Or.inl rfl) (pe_cl c_law_random hr (by omega) rfl passL (pa_cons (pv 0) (pa_cons pe_int pa_nil))))
      (pss_cons (ps_for ownsE rfl (pi_range1 rfl T.f_range (pa_cons pe_int pa_nil)) (pg_name (i := 2) nd rfl (Or.inr rfl))
      (pss_cons (ps_set (i := 3) nd rfl (Or.inl rfl) (pe_cl c_law_pick hr (by omega) rfl passL (pa_cons (pv 1) (pa_cons (pe_lst (pa_cons pe_str (pa_cons pe_str (pa_cons pe_int (pa_cons pe_non (pa_cons (pe_tup (pa_cons pe_int pa_nil)) (pa_cons (pe_lst (pa_cons pe_int pa_nil)) pa_nil))))))) pa_nil))))
      (pss_cons (ps_set (i := 4) nd rfl (Or.inl rfl) pe_bl)
      (pss_cons (L2N.ps_try_as rfl rfl nd (i := 5) rfl rfl ⟨rfl, by decide, .inl T.g_RhymeError⟩ take0N (fun W pn xe tk hpo => (pss_one (ps_expr (pe_clN c_law_thrown hr (by omega) rfl tk (pa_cons (pv 2) (pa_cons (pv 3) pa_nil)))))) (fun a oe cls d pn hz hv => have hot := hot_suite (X := cxOf (L2.CX P w) P w K mg base ["_law_script", "_law_d", "_law_k", "_law_one", "_law_good", "_law_e", "_law_other"] "law" (defScope s_law) (He.ga K "law") cdv A outer s H E) (pn := pn) hz hv; (pss_cons (ps_set (i := 4) nd rfl (Or.inl rfl) (pe_and (pe_callB (id := "isinstance") (call_isX hot) rfl T.f_isinstance (by decide +kernel) (pa_cons (pv 5) (pa_cons (pe_bltn (v := .ty "ValueError") (u := .type "ValueError") rfl T.f_ValueError (by decide +kernel) rfl) pa_nil))) (pe_one (pe_cmpR (op_eqD hr.units) (pe_clE c_law_classes hot (L2H.roomH_mark hr _) (by omega) rfl (pa_cons (pv 5) pa_nil)) (pe_lcH (own := [("_law_other", 6)]) (g := (gName 6)) (tt := tYes) (te := (tOp rEq (tVar 6) (tVar 2))) (HotP.c hot) nd (L2H.pi_range1H rfl T.f_range (pa_cons pe_int pa_nil)) (blkOk_by (N := ["_law_script", "_law_d", "_law_k", "_law_one", "_law_good", "_law_e", "_law_other"]) (sc := defScope s_law) (by decide +kernel)) (fun _ _ _ _ _ => (pg_name (i := 6) nd rfl (Or.inl rfl))) (fun _ _ _ _ _ => pts_nil) (fun _ _ _ _ _ => (pe_cmpR op_eq (pv 6) (pv 2) (nomark _)))) (nomark _)))))
      (pss_one (ps_set (i := 4) nd rfl (Or.inl rfl) (pe_and (pv 4) (pe_one (pe_clE0 c_law_equalH hot (L2H.roomH_mark hr _) (by omega) rfl (pa_cons (pe_clE c_law_field hot (L2H.roomH_mark hr _) (by omega) rfl (pa_cons (pv 2) (pa_cons (pv 5) pa_nil))) (pa_cons (pe_ifExp (pt_cmpR op_gt (pv 2) pe_int (nomark _)) (pv 3) pe_non) pa_nil))))))))))
      (pss_one (ps_if (pt_not (pt_val (pv 4))) (pss_one (ps_ret pe_bl)) pss_nil))))))
      (pss_one (ps_ret pe_bl)))), by with_unfolding_all exact pure_law T.er vs H Q E h⟩
end
end Z
namespace Z
open PySem PySem.Spec PyProof.Rows L2
def fn : List He.DefD := [
  ⟨("_law_random", none), "_law_random", "_law_random", defArgs s_law_random, defBody s_law_random, defScope s_law_random, [], []⟩,
  ⟨("_law_below", none), "_law_below", "_law_below", defArgs s_law_below, defBody s_law_below, defScope s_law_below, [], []⟩,
  ⟨("_law_pick", none), "_law_pick", "_law_pick", defArgs s_law_pick, defBody s_law_pick, defScope s_law_pick, [], []⟩,
  ⟨("_law_thrown", none), "_law_thrown", "_law_thrown", defArgs s_law_thrown, defBody s_law_thrown, defScope s_law_thrown, [], []⟩,
  ⟨("_law_classes", none), "_law_classes", "_law_classes", defArgs s_law_classes, defBody s_law_classes, defScope s_law_classes, [], []⟩,
  ⟨("_law_equal", none), "_law_equal", "_law_equal", defArgs s_law_equal, defBody s_law_equal, defScope s_law_equal, [], []⟩,
  ⟨("_law_field", none), "_law_field", "_law_field", defArgs s_law_field, defBody s_law_field, defScope s_law_field, [], []⟩,
  ⟨("law", none), "law", "law", defArgs s_law, defBody s_law, defScope s_law, [], []⟩]
def fa0 : List He.Fa := [.exc "AtEnd", .glo "AtEnd", .exc "BadChild", .glo "BadChild", .exc "BadLeft", .glo "BadLeft", .exc "BadNumber", .glo "BadNumber", .exc "BadTurn", .glo "BadTurn", .free "ValueError", .free "abs", .free "all", .free "bool", .free "dict", .free "int", .free "isinstance", .free "len", .free "list", .free "range", .free "str", .free "super", .free "tuple", .glo "BadVerses", .glo "InvalidLine", .glo "RhymeError", .glo "_law_random", .glo "_law_below", .glo "_law_pick", .glo "_law_thrown"]
def fa1 : List He.Fa := [.glo "_law_classes", .glo "_law_equal", .glo "_law_field", .glo "law"]
def fa : List He.Fa := fa0 ++ fa1
def sd : List SupD := [d_BadVersesu_initu, d_InvalidLineu_initu]
def exB (K : PySem.W.Frag) : Bool := errB K && (supB K "/claim/cut.py" d_BadVersesu_initu && supB K "/claim/cut.py" d_InvalidLineu_initu)
def loose0 : List PySem.Str := ["__name__", "RhymeError", "BadVerses", "BadLeft", "BadNumber", "BadTurn", "BadChild", "AtEnd", "InvalidLine", "__name__", "_law_random", "_law_below", "_law_pick", "_law_equal", "_law_thrown", "_law_classes", "_law_field"]
def loose : List PySem.Str := loose0
abbrev R : PySem.W.OpenRow := PySem.W.OpenLaw.row PySem.Challenge.rw_outrhymes_k12_errors_apart
abbrev hk : PySem.W.Hook := hookC 6 fa fn sd exB
def ob (s : PySem.W.SharedT) : AlC := obsC 6 fa fn sd exB (HandSHeadRun.getT s)
theorem ob_eq (s : PySem.W.SharedT) : ob s = hk.obs s.abs := obsC_eq (HandSHeadRun.getT_eq s)
theorem run (w : World) : HandSHeadRun.RunEq R (PySem.W.view R.prog [17]) hk ob 4000 loose w := by
  intro os
  kernel_rfl
theorem tw_of {K : PySem.W.Frag} {h : Heap} {mg : Str → Option Value} (X : K.In h) (G : h.Ns mainGlobals mg) (c : He.SaysD fa fn K) (e : exB K = true) (cs : ∀ (i : Nat) (d : SupD), sd[i]? = some d → fnS K d.cls = d.val) : Tw K mg := by
  have gl : ∀ {x : Str}, He.Fa.glo x ∈ fa → mg x = some (.ref (He.ga K x)) := fun hx => He.glo_ok X G (c.facts hx)
  have fr : ∀ {x : Str}, He.Fa.free x ∈ fa → mg x = none := fun hx => He.free_ok X G (c.facts hx)
  have it : ∀ {x : Str} {i : Int}, He.Fa.int x i ∈ fa → ∃ u, mg x = some u ∧ RelV (.int i) u := fun hx => by
    obtain ⟨t, e⟩ := He.int_ok X G (c.facts hx)
    exact ⟨_, e, t, rfl⟩
  have sr : ∀ {x z : Str}, He.Fa.str x z ∈ fa → ∃ u, mg x = some u ∧ RelV (.str z) u := fun hx => by
    obtain ⟨t, e⟩ := He.str_ok X G (c.facts hx)
    exact ⟨_, e, t, rfl⟩
  have xc : ∀ {x : Str}, He.Fa.exc x ∈ fa → He.Fa.glo x ∈ fa → XcK K mg x := fun hx hg => by
    obtain ⟨a1, a2, a3, a4⟩ := He.exc_ok (c.facts hx)
    exact ⟨a1, a2, a3, a4, gl hg⟩
  have gc : ∀ {x : Str}, He.Fa.glo x ∈ fa → ∃ u, mg x = some u ∧ RelV (.ref (He.ga K x)) u := fun hx => ⟨_, gl hx, rfl⟩
  obtain ⟨e1, e⟩ := He.ba e
  obtain ⟨e2, e3⟩ := He.ba e

  exact {
    x_AtEnd := xc (by simp [fa, fa0, fa1]) (by simp [fa, fa0, fa1])
    x_BadChild := xc (by simp [fa, fa0, fa1]) (by simp [fa, fa0, fa1])
    x_BadLeft := xc (by simp [fa, fa0, fa1]) (by simp [fa, fa0, fa1])
    x_BadNumber := xc (by simp [fa, fa0, fa1]) (by simp [fa, fa0, fa1])
    x_BadTurn := xc (by simp [fa, fa0, fa1]) (by simp [fa, fa0, fa1])
    f_ValueError := fr (by simp [fa, fa0, fa1])
    f_abs := fr (by simp [fa, fa0, fa1])
    f_all := fr (by simp [fa, fa0, fa1])
    f_bool := fr (by simp [fa, fa0, fa1])
    f_dict := fr (by simp [fa, fa0, fa1])
    f_int := fr (by simp [fa, fa0, fa1])
    f_isinstance := fr (by simp [fa, fa0, fa1])
    f_len := fr (by simp [fa, fa0, fa1])
    f_list := fr (by simp [fa, fa0, fa1])
    f_range := fr (by simp [fa, fa0, fa1])
    f_str := fr (by simp [fa, fa0, fa1])
    f_super := fr (by simp [fa, fa0, fa1])
    f_tuple := fr (by simp [fa, fa0, fa1])
    g_AtEnd := gl (by simp [fa, fa0, fa1])
    g_BadChild := gl (by simp [fa, fa0, fa1])
    g_BadLeft := gl (by simp [fa, fa0, fa1])
    g_BadNumber := gl (by simp [fa, fa0, fa1])
    g_BadTurn := gl (by simp [fa, fa0, fa1])
    g_BadVerses := gl (by simp [fa, fa0, fa1])
    g_InvalidLine := gl (by simp [fa, fa0, fa1])
    g_RhymeError := gl (by simp [fa, fa0, fa1])
    d_law_random := gl (by simp [fa, fa0, fa1])
    d_law_below := gl (by simp [fa, fa0, fa1])
    d_law_pick := gl (by simp [fa, fa0, fa1])
    d_law_thrown := gl (by simp [fa, fa0, fa1])
    d_law_classes := gl (by simp [fa, fa0, fa1])
    d_law_equalH := gl (by simp [fa, fa0, fa1])
    d_law_field := gl (by simp [fa, fa0, fa1])
    d_law := gl (by simp [fa, fa0, fa1])
    er := errB_ok e1
    s_BadVerses := supF_of (cs 0 _ rfl) e2
    s_InvalidLine := supF_of (cs 1 _ rfl) e3 }
theorem facts_of {P : Program} {w : World} {K : PySem.W.Frag} {h : Heap} {mg : Str → Option Value} {f : Addr} (X : K.In h) (G : h.Ns mainGlobals mg) (hfa : mg ("law" : Str) = some (.ref f)) (c : He.SaysD fa fn K) (e : exB K = true) (cs : ∀ (i : Nat) (d : SupD), sd[i]? = some d → fnS K d.cls = d.val) (hfile : ((P.main.file : Str) == "/claim/cut.py") = true) (htop : (P.main.scope.names.lookup ("super" : Str)).isSome = false) :
    ∃ fd : FuncData, (∀ (s : Shared) (v : Value), BindsTo s fd ⟨[v], []⟩ [("_law_script", v)]) ∧ ∀ base : Heap, K.In base → base.Ns mainGlobals mg → FnOk P w K mg base (L2.CX P w) 5 f fd ["_law_script"] (sp_law K) := by
  have T : Tw K mg := tw_of X G c e cs
  have ef := hfa.symm.trans T.d_law
  cases ef
  have F_law_random := c.def_ 0 (d := ⟨("_law_random", none), "_law_random", "_law_random", defArgs s_law_random, defBody s_law_random, defScope s_law_random, [], []⟩) rfl
  have F_law_below := c.def_ 1 (d := ⟨("_law_below", none), "_law_below", "_law_below", defArgs s_law_below, defBody s_law_below, defScope s_law_below, [], []⟩) rfl
  have F_law_pick := c.def_ 2 (d := ⟨("_law_pick", none), "_law_pick", "_law_pick", defArgs s_law_pick, defBody s_law_pick, defScope s_law_pick, [], []⟩) rfl
  have F_law_thrown := c.def_ 3 (d := ⟨("_law_thrown", none), "_law_thrown", "_law_thrown", defArgs s_law_thrown, defBody s_law_thrown, defScope s_law_thrown, [], []⟩) rfl
  have F_law_classes := c.def_ 4 (d := ⟨("_law_classes", none), "_law_classes", "_law_classes", defArgs s_law_classes, defBody s_law_classes, defScope s_law_classes, [], []⟩) rfl
  have F_law_equalH := c.def_ 5 (d := ⟨("_law_equal", none), "_law_equal", "_law_equal", defArgs s_law_equal, defBody s_law_equal, defScope s_law_equal, [], []⟩) rfl
  have F_law_field := c.def_ 6 (d := ⟨("_law_field", none), "_law_field", "_law_field", defArgs s_law_field, defBody s_law_field, defScope s_law_field, [], []⟩) rfl
  have F_law := c.def_ 7 (d := ⟨("law", none), "law", "law", defArgs s_law, defBody s_law, defScope s_law, [], []⟩) rfl
  obtain ⟨fd, F⟩ := F_law
  have b := FunD.bindsA (ps := ["_law_script"]) F fun _ _ _ _ _ _ us hl => match us, hl with | [_], _ => rfl
  refine ⟨fd, fun s v => b s [v] rfl, fun base _ _ => ?_⟩
  have c_sBadVerses : XsK P w K mg base 1 "BadVerses" "index" := oks_BadVerses T hfile htop
  have c_sInvalidLine : XsK P w K mg base 1 "InvalidLine" "line" := oks_InvalidLine T hfile htop
  have c_law_random : Cl P w K mg base 1 "_law_random" (sp_law_random K) [] := ok_law_random T  F_law_random
  have c_law_below : Cl P w K mg base 1 "_law_below" (sp_law_below K) [] := ok_law_below T  F_law_below
  have c_law_pick : Cl P w K mg base 2 "_law_pick" (sp_law_pick K) [] := ok_law_pick T c_law_below F_law_pick
  have c_law_thrown : ClN P w K mg base 3 "_law_thrown" (sp_law_thrown K) := ok_law_thrown T  c_sBadVerses c_sInvalidLine F_law_thrown
  have c_law_classes : ClE P w K mg base 1 "_law_classes" (sp_law_classes K) := ok_law_classes T  F_law_classes
  have c_law_equalH : ClE P w K mg base 4 "_law_equal" (fun _ _ _ => sp_law_equal 4 K) := ok_law_equalH T  F_law_equalH
  have c_law_field : ClE P w K mg base 1 "_law_field" (sp_law_field K) := ok_law_field T  F_law_field
  exact okf_law T c_law_random c_law_pick c_law_thrown c_law_classes c_law_equalH c_law_field F
end Z
open PySem PySem.W PySem.Calls PyProof.Rows
theorem PySem.Challenge.cw_outrhymes_k12_errors_apart_holds : PySem.Challenge.rw_outrhymes_k12_errors_apart.Holds := by
  w_on; o_law
  refine HandSHeadRun.head_any (r := OpenLaw.row PySem.Challenge.rw_outrhymes_k12_errors_apart) (q := view (OpenLaw.row PySem.Challenge.rw_outrhymes_k12_errors_apart).prog [17]) (H := Z.hk) (ob := Z.ob) (M := 4000) (loose := Z.loose) (d := HandSHeadRun.topDef (OpenLaw.row PySem.Challenge.rw_outrhymes_k12_errors_apart).prog 17) (kwd := []) Z.ob_eq
    (by kernel_rfl) (fun s => by kernel_rfl) Z.run (by kernel_rfl) (by kernel_rfl) (by kernel_rfl) (by rfl) (by first | assumption | decide +kernel) (by decide +kernel) ⟨rfl, rfl, rfl, rfl, rfl, by decide +kernel⟩ ?hw ?hc
  case hw => w_witness2
  case hc =>
    refine Z.walk_ofW (CW := fun w => L2.CX (PySem.Challenge.rw_outrhymes_k12_errors_apart).prog w) (ll := PySem.Challenge.rw_outrhymes_k12_errors_apart) (mm := 63) (lv := 5) (arg := "_law_script") rfl (by decide) (by kernel_rfl) (by exact ⟨rfl, by decide, by decide⟩) ?F ?CX
    case CX => exact fun w H s e s' z => Z.noout z
    case F =>
      intro w mg fa h Y G hmg0
      obtain ⟨K, KX, c⟩ := Y
      have hmg : mg ("law" : PySem.Str) = some (.ref fa) := by
        have e : (HandSHeadRun.topDef (OpenLaw.row PySem.Challenge.rw_outrhymes_k12_errors_apart).prog 17).name = ("law" : PySem.Str) := by kernel_rfl
        rw [← e]
        exact hmg0
      obtain ⟨fd, hb, hF⟩ := Z.facts_of (P := (PySem.Challenge.rw_outrhymes_k12_errors_apart).prog) (w := w) KX G hmg c.t.d c.more (fun i d h => c.sup i h) (by kernel_rfl) (by kernel_rfl)
      exact ⟨K, fd, Z.sp_law K, KX, hb, fun H a ns hl hS => Z.law_pre a ns hS hl, hF⟩
