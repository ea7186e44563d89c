import PyProof.Rows.All
import Wide.All
import OpenK.AllK
import Wide.FinOn
import HandS.ForMost
import HandS.Exc
import HandS.ExcOwn
import HandS.WordsExc
import HandS.TryOnly
import HandS.TryMany
import HandS.IsInst
import HandS.Defaults
import HandS.Codes
import HandS.TupAny
import HandS.TupMul
import HandS.FStr
import HandS.CallSlots
import HandS.Wide
import HandS.Property
import HandS.Small
import HandS.Style
import HandS.Conv
import HandS.Deep
import HandS.HeadHook2
import HandS.Walk
import KE.GoesEnum
import KE.GoesMore
import HandS.OwnEq
import HandS.Head0
import HandS.Head1
import HandS.Head2
import HandS.HeadEnd
import HandS.HeadHook1
import HandS.ExcInit
import HandS.Nested
import HandS.HeadHook4
import KE.KExcSuper
import KE.KSuper
import KE.KSuperObj
import HandS.ExcField
import HandS.HeadHook3
import HandS.NoneIn
import KE.KStateDown
import HandS.Ends
import HandS.More
import HandS.Words
import PySem.Challenge.RW_outrhymes_k08_rhymes_kept_and_refused
set_option Elab.async false
set_option linter.all false
set_option maxRecDepth 100000
set_option maxHeartbeats 0
/-! Readings' short names; calls by what is known of a def (Cl), of a class (Ck), of a method (Cm). -/
namespace Z
open PySem PySem.Spec PyProof.Rows L2
abbrev oAdd : R2 := rI0 fun i j => .int (i + j)
abbrev oSub : R2 := rI0 fun i j => .int (i - j)
abbrev oMul : R2 := rI CMul fun i j => .int (i * j)
abbrev oMulW : R2 := rI CMulW fun i j => .int (i * j)
abbrev oFdv : R2 := rI CDiv fun i j => .int (i / j)
abbrev oFdvW : R2 := rI CDivW fun i j => .int (i / j)
abbrev oMod : R2 := rI (fun _ j => 0 < j) fun i j => .int (i % j)
abbrev oPow : R2 := rI CPow fun i j => .int (i ^ j.toNat)
abbrev oLt : R2 := rI0 fun i j => .bl (decide (i < j))
abbrev oLe : R2 := rI0 fun i j => .bl (decide (i ≤ j))
abbrev oGt : R2 := rI0 fun i j => .bl (decide (j < i))
abbrev oGe : R2 := rI0 fun i j => .bl (decide (j ≤ i))
abbrev oIsN : R2 := fun x y H Q => y = .non ∧ Q (.bl (decide (x = .non))) H
abbrev oNotN : R2 := fun x y H Q => y = .non ∧ Q (.bl (!decide (x = .non))) H
abbrev oAddS : R2 := fun x y H Q => ∃ i j, x = .str i ∧ y = .str j ∧ i.length + j.length ≤ sizeLine ∧ Q (.str (i ++ j)) H
abbrev oNeg : V → Hp → VK → Prop := rU fun i => .int (-i)
abbrev RL := List V → Hp → VK → Prop
def cLen (K : PySem.W.Frag) : RL := fun xs H Q => ∃ p ys, xs = [.ref p] ∧ (SqL K H p ys ∨ SqT K H p ys) ∧ Q (.int ys.length) H
def cLenS : RL := fun xs H Q => ∃ z, xs = [.str z] ∧ z.length ≤ sizeLine ∧ Q (.int z.length) H
def cInt : RL := fun xs H Q => (∃ i, xs = [.int i] ∧ Q (.int i) H) ∨ ∃ k, xs = [.bl k] ∧ Q (.int (if k then 1 else 0)) H
def cIntS : RL := fun xs H Q => ∃ a n, xs = [.str a] ∧ PySem.intText? a = some n ∧ a.length ≤ 640 ∧ Q (.int n) H
def cAbs : RL := fun xs H Q => ∃ i, xs = [.int i] ∧ Q (.int (if i < 0 then -i else i)) H
def cStr : RL := fun xs H Q => ∃ i, xs = [.int i] ∧ i.natAbs.log2 < 1920 ∧ Q (.str (toString i)) H
def cTup (K : PySem.W.Frag) : RL := fun xs H Q => ∃ p ys, xs = [.ref p] ∧ ((SqL K H p ys ∧ ∀ l, H l = none → Q (.ref l) (upd H l (.tup ys))) ∨ (SqT K H p ys ∧ Q (.ref p) H))
def cLst (K : PySem.W.Frag) : RL := fun xs H Q => ∃ p ys, xs = [.ref p] ∧ (SqL K H p ys ∨ SqT K H p ys) ∧ ∀ l, H l = none → Q (.ref l) (upd H l (.lst ys))
def mSplit : V → RL := fun x xs H Q => ∃ a b, x = .str a ∧ xs = [.str b] ∧ (b.length == 0) = false ∧ a.length + 2 ≤ sizeLine ∧ rNewStrs (Txt.split a b) H Q
def mJoin (K : PySem.W.Frag) : V → RL := fun x xs H Q => ∃ a p, ∃ ys : List Str, x = .str a ∧ xs = [.ref p] ∧ (SqL K H p (ys.map V.str) ∨ SqT K H p (ys.map V.str)) ∧ (ys.map (·.length)).sum + ys.length * a.length ≤ 16777216 ∧ Q (.str (Txt.join a ys)) H
def tJoined (ts : List TE) : TE := fun σ H Q => tJs ts Str.empty σ H fun out H1 => Q (.str out) H1

/-- all that was known stays -/
abbrev Ex (H H' : Hp) : Prop := ∀ b o, H b = some o → H' b = some o
theorem ex_refl (H : Hp) : Ex H H := fun _ _ h => h
theorem ex_trans {H H1 H2 : Hp} (a : Ex H H1) (b : Ex H1 H2) : Ex H H2 := fun x o h => b x o (a x o h)
theorem ex_new {H : Hp} {p : Addr} {o : HO} (h : H p = none) : Ex H (upd H p o) := fun a u e => by
  rw [upd_ne (ne_of_none e h)]
  exact e
theorem ex_mut {H H' : Hp} {p : Addr} {o : HO} (e : Ex H H') (h : H p = none) : Ex H (upd H' p o) := fun a u ha => by
  rw [upd_ne (ne_of_none ha h)]
  exact e a u ha
theorem ex_free {H H' : Hp} {p : Addr} (e : Ex H H') (h : H' p = none) : H p = none := by
  cases h1 : H p with
  | none => rfl
  | some o =>
    have h2 := e p o h1
    rw [h] at h2
    cases h2
/-- but for one place -/
abbrev Fx (d : Addr) (H H' : Hp) : Prop := ∀ b o, b ≠ d → H b = some o → H' b = some o
theorem fx_refl (d : Addr) (H : Hp) : Fx d H H := fun _ _ _ h => h
theorem fx_trans {d : Addr} {H H1 H2 : Hp} (a : Fx d H H1) (b : Fx d H1 H2) : Fx d H H2 := fun x o n h => b x o n (a x o n h)
theorem fx_ex {d : Addr} {H H' : Hp} (h : Ex H H') : Fx d H H' := fun b o _ e => h b o e
theorem ex_fx {d : Addr} {H0 H H' : Hp} (e : Ex H0 H) (n : H0 d = none) (f : Fx d H H') : Ex H0 H' := fun b o q => f b o (fun z => by subst z; rw [n] at q; cases q) (e b o q)
theorem fx_upd {d : Addr} {H : Hp} {o : HO} : Fx d H (upd H d o) := fun b u n e => by
  rw [upd_ne n]
  exact e
theorem sq_ex {K : PySem.W.Frag} {H H' : Hp} {a : Addr} {xs : List V} (e : Ex H H') (h : SqL K H a xs) : SqL K H' a xs := by
  rcases h with (h | ⟨o, h⟩) | h
  · exact .inl (.inl (e _ _ h))
  · exact .inl (.inr ⟨o, e _ _ h⟩)
  · exact .inr h
theorem sqt_ex {K : PySem.W.Frag} {H H' : Hp} {a : Addr} {xs : List V} (e : Ex H H') (h : SqT K H a xs) : SqT K H' a xs := by
  rcases h with (h | ⟨o, h⟩) | h
  · exact .inl (.inl (e _ _ h))
  · exact .inl (.inr ⟨o, e _ _ h⟩)
  · exact .inr h

theorem at0 {a : V} {l : List V} : atI (a :: l) 0 = some a := atI_nat (j := 0) rfl
theorem at1 {a b : V} {l : List V} : atI (a :: b :: l) 1 = some b := atI_nat (j := 1) rfl
theorem at2 {a b c : V} {l : List V} : atI (a :: b :: c :: l) 2 = some c := atI_nat (j := 2) rfl
theorem at3 {a b c d : V} {l : List V} : atI (a :: b :: c :: d :: l) 3 = some d := atI_nat (j := 3) rfl
theorem ix0 {n : Nat} : ixN (n + 1) 0 = some 0 := by
  unfold ixN
  rw [if_pos (by omega), if_pos (by omega)]
  rfl
theorem ix1 {n : Nat} : ixN (n + 1 + 1) 1 = some 1 := by
  unfold ixN
  rw [if_pos (by omega), if_pos (by omega)]
  rfl
theorem d_int (a b : Int) : decide (V.int a = V.int b) = decide (a = b) := by
  by_cases h : a = b
  · rw [decide_eq_true h, decide_eq_true (congrArg V.int h)]
  · rw [decide_eq_false h, decide_eq_false fun z => h (V.int.inj z)]
theorem d_str (a b : Str) : decide (V.str a = V.str b) = decide (a = b) := by
  by_cases h : a = b
  · rw [decide_eq_true h, decide_eq_true (congrArg V.str h)]
  · rw [decide_eq_false h, decide_eq_false fun z => h (V.str.inj z)]
theorem v_int {a b : Int} (h : decide (V.int a = V.int b) = true) : a = b := V.int.inj (of_decide_eq_true h)
theorem v_int' {a b : Int} (h : decide (V.int a = V.int b) = false) : a ≠ b := fun z => of_decide_eq_false h (congrArg V.int z)
theorem iteT' {c : Bool} {A B : Prop} (h : c = true) (k : A) : if c = true then A else B := by
  rw [if_pos h]
  exact k
theorem iteF' {c : Bool} {A B : Prop} (h : c = false) (k : B) : if c = true then A else B := by
  rw [h, if_neg Bool.false_ne_true]
  exact k
/-- an if whose test has the answer b and makes nothing | may make things -/
theorem if_go {c : TT} {t u : TS} {D : Ends} {σ : L2.St} {H : Hp} (b : Bool) (h : ∀ Q : Bool → Hp → Prop, Q b H → c σ H Q) (ht : b = true → t D σ H) (hf : b = false → u D σ H) : tIfS c t u D σ H := by
  refine h _ ?_
  cases b with
  | true => exact iteT (ht rfl)
  | false => exact iteF (hf rfl)
theorem if_goH {c : TT} {t u : TS} {D : Ends} {σ : L2.St} {H : Hp} (b : Bool) (h : ∀ Q : Bool → Hp → Prop, (∀ H', Ex H H' → Q b H') → c σ H Q) (ht : ∀ H', Ex H H' → b = true → t D σ H') (hf : ∀ H', Ex H H' → b = false → u D σ H') : tIfS c t u D σ H := by
  refine h _ fun H' e => ?_
  cases b with
  | true => exact iteT (ht H' e rfl)
  | false => exact iteF (hf H' e rfl)
/-- a and b, where a's answer is known -/
theorem and_go {t u : TT} {σ : L2.St} {H : Hp} {Q : Bool → Hp → Prop} (a b : Bool) (h : ∀ Q : Bool → Hp → Prop, Q a H → t σ H Q) (hu : a = true → ∀ Q : Bool → Hp → Prop, Q b H → u σ H Q) (q : Q (a && b) H) : tAnd t u σ H Q := by
  refine h _ ?_
  cases a with
  | true => exact iteT (hu rfl Q q)
  | false => exact iteF q
theorem or_go {t u : TT} {σ : L2.St} {H : Hp} {Q : Bool → Hp → Prop} (a b : Bool) (h : ∀ Q : Bool → Hp → Prop, Q a H → t σ H Q) (hu : a = false → ∀ Q : Bool → Hp → Prop, Q b H → u σ H Q) (q : Q (a || b) H) : tOr t u σ H Q := by
  refine h _ ?_
  cases a with
  | true => exact iteT q
  | false => exact iteF (hu rfl Q q)
theorem andV_go {ta tb : TE} {σ : L2.St} {H : Hp} {Q : VK} (a b : Bool) (h : ∀ Q : VK, Q (.bl a) H → ta σ H Q) (hu : a = true → ∀ Q : VK, Q (.bl b) H → tb σ H Q) (q : Q (.bl (a && b)) H) : tAndV ta tb σ H Q := by
  refine h _ ⟨a, rfl, ?_⟩
  cases a with
  | true => exact iteT (hu rfl Q q)
  | false => exact iteF q
theorem orV_go {ta tb : TE} {σ : L2.St} {H : Hp} {Q : VK} (a b : Bool) (h : ∀ Q : VK, Q (.bl a) H → ta σ H Q) (hu : a = false → ∀ Q : VK, Q (.bl b) H → tb σ H Q) (q : Q (.bl (a || b)) H) : tOrV ta tb σ H Q := by
  refine h _ ⟨a, rfl, ?_⟩
  cases a with
  | true => exact iteT q
  | false => exact iteF (hu rfl Q q)
/-- a def that is called by its name, with these defaults -/
structure Cl (P : Program) (w : World) (K : PySem.W.Frag) (mg : Str → Option Value) (base : Heap) (k : Nat) (x : Str) (sp : Sp) (dvs : List V) : Prop where
  ex : ∃ (f : Addr) (fd : FuncData) (ps : List Str) (ds : List Value), FnOk P w K mg base (L2.CX P w) k f fd ps sp ∧ mg x = some (.ref f) ∧ PySem.W.keepIn K (.ref f) = true ∧ Binds K fd ps ds ∧ Vals dvs ds
/-- a method of the class at C -/
structure Cm (P : Program) (w : World) (K : PySem.W.Frag) (mg : Str → Option Value) (base : Heap) (k : Nat) (C : Addr) (m : Str) (sp : Sp) : Prop where
  ex : ∃ (f : Addr) (fd : FuncData) (ps : List Str), Cls K C ∧ Meth K C m f ∧ FnOk P w K mg base (L2.CX P w) k f fd ps sp ∧ Binds K fd ps []
/-- a class that is made by its name -/
structure Ck (P : Program) (w : World) (K : PySem.W.Frag) (mg : Str → Option Value) (base : Heap) (k : Nat) (x : Str) (C : Addr) (sp : Sp) : Prop where
  ex : ∃ (f : Addr) (fd : FuncData) (ps : List Str), Mk K C f ∧ FnOk P w K mg base (L2.CX P w) k f fd ps sp ∧ mg x = some (.ref C) ∧ Binds K fd ps []
section
variable {X : Cx} {k j : Nat} {C : Addr} {x m : Str} {sp : Sp} {dvs : List V} {p pos apos : Pos} {e o : Expr} {es : List Expr} {ta : TE} {t : TA} {E : XK}
theorem pe_cl (c : Cl X.prog X.w X.K X.mg X.base k x sp dvs) (hr : Room j X.A) (hk : k ≤ j) (hg : Gl X x) (hx : Passes (L2.CX X.prog X.w) X E) (ha : PA X (e :: es) t)
    (hdb : (x == ("__debug__" : Str)) = false := by decide) (he : starEach (e :: es) X.env = (false, eval e X.env) :: starEach es X.env := by rfl) (hpl : (backTo pos (starEach es X.env)).any (·.1) = false := by rfl) :
    PE X (.Call (.Name x p) (e :: es) [] pos) (tCall sp dvs E t) := by
  obtain ⟨f, fd, ps, ds, F, hm, kp, b, d⟩ := c.ex
  exact pe_call F (hr.mono hk) hg hm kp b d hx ha hdb he hpl
theorem pe_clS {W : L2.St → XK} (c : Cl X.prog X.w X.K X.mg X.base k x sp dvs) (hr : Room j X.A) (hk : k ≤ j) (hg : Gl X x) (hx : ∀ σ, PassesAt (L2.CX X.prog X.w) X σ (W σ)) (ha : PA X (e :: es) t)
    (hdb : (x == ("__debug__" : Str)) = false := by decide) (he : starEach (e :: es) X.env = (false, eval e X.env) :: starEach es X.env := by rfl) (hpl : (backTo pos (starEach es X.env)).any (·.1) = false := by rfl) :
    PE X (.Call (.Name x p) (e :: es) [] pos) (tCallSD sp dvs W t) := by
  obtain ⟨f, fd, ps, ds, F, hm, kp, b, d⟩ := c.ex
  exact pe_callSD F (hr.mono hk) hg hm kp b d hx ha hdb he hpl
theorem pe_mkc (c : Ck X.prog X.w X.K X.mg X.base k x C sp) (hr : Room j X.A) (hk : k + 1 ≤ j) (hg : Gl X x) (hx : Passes (L2.CX X.prog X.w) X E) (ha : PA X (e :: es) t)
    (hdb : (x == ("__debug__" : Str)) = false := by decide) (he : starEach (e :: es) X.env = (false, eval e X.env) :: starEach es X.env := by rfl) (hpl : (backTo pos (starEach es X.env)).any (·.1) = false := by rfl) :
    PE X (.Call (.Name x p) (e :: es) [] pos) (tMake C sp [] E t) := by
  obtain ⟨f, fd, ps, M, F, hm, b⟩ := c.ex
  exact pe_make M F (hr.mono hk) hg hm b .nil hx ha hdb he hpl
end
section
variable {P : Program} {w : World} {K : PySem.W.Frag} {mg : Str → Option Value} {base : Heap} {N : List Str} {qual : Str} {sc : Scope} {f : Addr} {cdv : Value} {A : Around} {outer : List Env} {s : Shared} {H : Hp} {E : XK}
theorem takesE : Takes (cxOf (L2.CX P w) P w K mg base N qual sc f cdv A outer s H E) (fun cls d _ H' => E cls d H') := L2.takes_of rfl rfl rfl rfl
theorem passE : Passes (L2.CX P w) (cxOf (L2.CX P w) P w K mg base N qual sc f cdv A outer s H E) E := L2.passes_call takesE (fun _ _ _ _ h => h)
theorem ownsE : PassesOwn (model P w) (cxOf (L2.CX P w) P w K mg base N qual sc f cdv A outer s H E).A (cxOf (L2.CX P w) P w K mg base N qual sc f cdv A outer s H E).env (cxOf (L2.CX P w) P w K mg base N qual sc f cdv A outer s H E).xe :=
  L2.passes_of rfl
/-- what the top leaves of a def: st its statement -/
abbrev FnT (K : PySem.W.Frag) (x qual : Str) (st : Stmt) (dvs : List V) (f : Addr) (fd : FuncData) : Prop := FunD K x qual (defArgs st) (defBody st) (defScope st) dvs [] f fd
theorem cl_of {x : Str} {st : Stmt} {ps : List Str} {k : Nat} {sp : Sp} (F : ∃ fd, FnT K x x st [] f fd) (hm : mg x = some (.ref f)) (S : FnScope N ps (defScope st)) (len : ∀ vs H Q E, sp vs H Q E → vs.length = ps.length)
    (hb : ∀ (kV doc pm : Value) (an : Option Addr) (cdv ct : Value) (us : List Value), us.length = ps.length → bindArgs (PySem.W.fnOf x x (defArgs st) (defBody st) (defScope st) .none kV doc pm an cdv ct) ⟨us, []⟩ = pure (ps.zip us))
    (body : ∀ (cdv : Value) (A : Around) (outer : List Env) (s : Shared) (H : Hp) (vs : List V) (Q : VK) (E : XK), Room k (A.deeper (envOfC x (defScope st) s.heap.objs.size f cdv)) → sp vs H Q E →
      ∃ t, PSs (cxOf (L2.CX P w) P w K mg base N x (defScope st) f cdv A outer s H E) (defBody st) t ∧ t { nx := fun _ H' => Q .non H', rt := Q } (start N vs) H) : Cl P w K mg base (k + 1) x sp [] := by
  obtain ⟨fd, F⟩ := F
  exact ⟨f, fd, ps, [], F.ok S len body, hm, F.kp, F.bindsN hb, .nil⟩
end
end Z
/-! Data on the heap, comprehensions that make nothing else, enumerate over a tuple. -/
namespace Z
open PySem PySem.Spec PyProof.Rows L2
/-! ### data -/
mutual
theorem dp_ex {K : PySem.W.Frag} {H H' : Hp} (e : Ex H H') : ∀ {v : V} {d : PyData}, Dp K H v d → Dp K H' v d
  | _, _, .non => .non
  | _, _, .bl b => .bl b
  | _, _, .int i => .int i
  | _, _, .str x => .str x
  | _, _, .lst h a => .lst (sq_ex e h) (dpa_ex e a)
  | _, _, .tup h a => .tup (sqt_ex e h) (dpa_ex e a)
theorem dpa_ex {K : PySem.W.Frag} {H H' : Hp} (e : Ex H H') : ∀ {v : List V} {d : List PyData}, DpAll K H v d → DpAll K H' v d
  | _, _, .nil => .nil
  | _, _, .cons h a => .cons (dp_ex e h) (dpa_ex e a)
end
/-- neither a tuple nor a locked one stands there -/
def NoT : Option HO → Prop
  | some (.tup _) => False
  | some (.frz _ _) => False
  | none => False
  | _ => True
/-- a tuple is still there where one other thing alone has changed -/
theorem sqt_fxN {K : PySem.W.Frag} {H H' : Hp} {a d : Addr} {xs : List V} (hd : NoT (H d)) (e : Fx d H H') (h : SqT K H a xs) : SqT K H' a xs := by
  rcases h with (h | ⟨o, h⟩) | h
  · exact .inl (.inl (e _ _ (fun z => by rw [← z, h] at hd; exact hd) h))
  · exact .inl (.inr ⟨o, e _ _ (fun z => by rw [← z, h] at hd; exact hd) h⟩)
  · exact .inr h
theorem noT_l {H : Hp} {d : Addr} {zs : List V} (h : H d = some (.lst zs)) : NoT (H d) := by
  rw [h]
  exact trivial
theorem noT_i {H : Hp} {d C dx : Addr} {fs : List (Str × V)} (h : H d = some (.ins C dx fs)) : NoT (H d) := by
  rw [h]
  exact trivial
mutual
/-- no list within -/
def flatD : PyData → Bool
  | .none => true
  | .bool _ => true
  | .int _ => true
  | .str _ => true
  | .list _ => false
  | .tuple ds => flatDs ds
  | .dict _ => false
def flatDs : List PyData → Bool
  | [] => true
  | d :: ds => flatD d && flatDs ds
end
mutual
theorem dp_fxN {K : PySem.W.Frag} {H H' : Hp} {l : Addr} (hl : NoT (H l)) (e : Fx l H H') : ∀ {v : V} {d : PyData}, flatD d = true → Dp K H v d → Dp K H' v d
  | _, _, _, .non => .non
  | _, _, _, .bl b => .bl b
  | _, _, _, .int i => .int i
  | _, _, _, .str x => .str x
  | _, .list _, f, .lst h a => nomatch f
  | _, .tuple ds, f, .tup h a => .tup (sqt_fxN hl e h) (dpa_fxN hl e (d := ds) f a)
theorem dpa_fxN {K : PySem.W.Frag} {H H' : Hp} {l : Addr} (hl : NoT (H l)) (e : Fx l H H') : ∀ {v : List V} {d : List PyData}, flatDs d = true → DpAll K H v d → DpAll K H' v d
  | _, _, _, .nil => .nil
  | _, d :: ds, f, .cons h a => .cons (dp_fxN hl e (Bool.and_eq_true_iff.mp (show (flatD d && flatDs ds) = true from f)).1 h) (dpa_fxN hl e (Bool.and_eq_true_iff.mp (show (flatD d && flatDs ds) = true from f)).2 a)
end
/-- the name of the class of data -/
def tyN : PyData → String
  | .none => "NoneType"
  | .bool _ => "bool"
  | .int _ => "int"
  | .str _ => "str"
  | .list _ => "list"
  | .tuple _ => "tuple"
  | .dict _ => "dict"
theorem dp_ty {K : PySem.W.Frag} {H : Hp} {v : V} {d : PyData} (h : Dp K H v d) : TyX K H v (.type (tyN d)) := by
  cases h with
  | non => exact .base .non
  | bl b => exact .base (.bl b)
  | int i => exact .base (.int i)
  | str x => exact .base (.str x)
  | lst h _ =>
    rcases h with (h | ⟨o, h⟩) | ⟨o, _, _, h, c, _⟩
    · exact .base (.lst h)
    · exact .base (.frz h)
    · exact .kList h c
  | tup h _ =>
    rcases h with (h | ⟨o, h⟩) | ⟨o, _, _, h, c, _⟩
    · exact .base (.tup h)
    · exact .fTuple h
    · exact .kTuple h c
theorem dpa_len {K : PySem.W.Frag} {H : Hp} : ∀ {vs : List V} {ds : List PyData}, DpAll K H vs ds → vs.length = ds.length
  | _, _, .nil => rfl
  | _, _, .cons _ a => congrArg (· + 1) (dpa_len a)
theorem dpa_get {K : PySem.W.Frag} {H : Hp} : ∀ {vs : List V} {ds : List PyData} {i : Nat} {d : PyData}, DpAll K H vs ds → ds[i]? = some d → ∃ v, vs[i]? = some v ∧ Dp K H v d
  | _, _, _, _, .nil, e => by simp at e
  | _, _, 0, _, .cons h a, e => ⟨_, rfl, by
    have e2 := Option.some.inj e
    rw [← e2]
    exact h⟩
  | _, _, i + 1, _, .cons h a, e => dpa_get (i := i) a e
theorem dpa_get' {K : PySem.W.Frag} {H : Hp} : ∀ {vs : List V} {ds : List PyData} {i : Nat} {v : V}, DpAll K H vs ds → vs[i]? = some v → ∃ d, ds[i]? = some d ∧ Dp K H v d
  | _, _, _, _, .nil, e => by simp at e
  | _, _, 0, _, .cons h a, e => ⟨_, rfl, by
    have e2 := Option.some.inj e
    rw [← e2]
    exact h⟩
  | _, _, i + 1, _, .cons h a, e => dpa_get' (i := i) a e
theorem dp_tup {K : PySem.W.Frag} {H : Hp} {v : V} {ds : List PyData} (h : Dp K H v (.tuple ds)) : ∃ a xs, v = .ref a ∧ SqT K H a xs ∧ DpAll K H xs ds := by
  cases h with
  | tup h a => exact ⟨_, _, rfl, h, a⟩
theorem dp_lst {K : PySem.W.Frag} {H : Hp} {v : V} {ds : List PyData} (h : Dp K H v (.list ds)) : ∃ a xs, v = .ref a ∧ SqL K H a xs ∧ DpAll K H xs ds := by
  cases h with
  | lst h a => exact ⟨_, _, rfl, h, a⟩
theorem dp_int {K : PySem.W.Frag} {H : Hp} {v : V} {i : Int} (h : Dp K H v (.int i)) : v = .int i := by
  cases h
  rfl
theorem dp_str {K : PySem.W.Frag} {H : Hp} {v : V} {x : Str} (h : Dp K H v (.str x)) : v = .str x := by
  cases h
  rfl
theorem dpa_snoc {K : PySem.W.Frag} {H : Hp} {v : V} {d : PyData} (h : Dp K H v d) : ∀ {vs : List V} {ds : List PyData}, DpAll K H vs ds → DpAll K H (vs ++ [v]) (ds ++ [d])
  | _, _, .nil => .cons h .nil
  | _, _, .cons g a => .cons g (dpa_snoc h a)
theorem dpa_ints {K : PySem.W.Frag} {H : Hp} : ∀ ns : List Int, DpAll K H (ns.map V.int) (ns.map PyData.int)
  | [] => .nil
  | n :: ns => .cons (.int n) (dpa_ints ns)
/-- isinstance of data with a built-in class -/
theorem isi_go {K : PySem.W.Frag} {H : Hp} {v : V} {d : PyData} {c : String} {b : Bool} {Q : VK} (h : Dp K H v d) (e : kitB (tyN d) c = some b) (q : Q (.bl b) H) : rIsi K [v, .ty c] H Q :=
  ⟨v, .ty c, _, _, b, rfl, .ty c, dp_ty h, kit_ty e, q⟩
/-- a list by its places -/
theorem map_range_get {α β : Type} (l : List α) (f : α → β) (d : α) {n : Nat} (hn : n = l.length) : (List.range n).map (fun i => f (l.getD i d)) = l.map f := by
  subst hn
  refine List.ext_getElem? fun i => ?_
  rw [List.getElem?_map, List.getElem?_map]
  by_cases h : i < l.length
  · rw [List.getElem?_range h, List.getElem?_eq_getElem h]
    show some (f (l.getD i d)) = some (f l[i])
    rw [List.getD_eq_getElem?_getD, List.getElem?_eq_getElem h]
    rfl
  · rw [List.getElem?_eq_none_iff.mpr (by rw [List.length_range]; omega), List.getElem?_eq_none_iff.mpr (by omega)]
    rfl
/-! ### comprehensions -/
section
variable {J : It} {n : Nat} {G : Hp → Prop} {Y : Nat → Hp → V → Hp → Prop}
/-- a comprehension whose test and element make nothing that lasts: p i, f i at the turn i -/
theorem lc_pure (w : Walk J n G Y) {g : TG} {tt : TT} {te : TE} {vs : List Nat} {σ : L2.St} {H1 : Hp} {D : Addr} {Qd : Hp → Prop} (p : Nat → Bool) (f : Nat → V) (hD : H1 D = none) (hn : n < sizeLine) (hG : ∀ H, Ex H1 H → G H)
    (hs : ∀ i x H H', i < n → Ex H1 H → Y i H x H' → ∀ (Q : VK) (Zf : Hp → Prop), (p i = true → ∀ H4, Ex H H4 → Q (f i) H4) → (p i = false → ∀ H4, Ex H H4 → Zf H4) →
      g x (wipe σ vs) H' fun σ2 H2 => wipe σ2 vs = wipe σ vs ∧ tt σ2 H2 fun b H3 => if b = true then te σ2 H3 Q else Zf H3)
    (hd : ∀ H, Ex H1 H → H D = some (.lst (((List.range n).filter p).map f)) → Qd H) :
    ∃ W : Nat → Nat → Hp → Prop, (∃ m, W 0 m (upd H1 D (.lst []))) ∧ ∀ i m H, W i m H →
      (J.stop i H ∧ Qd H) ∨ (J.go i H ∧ ∃ Nx : Hp → Prop, (∀ H', Nx H' → ∃ m', m' < m ∧ W (i + 1) m' H') ∧ ∀ x H', J.yld i H x H' → g x (wipe σ vs) H' fun σ2 H2 => wipe σ2 vs = wipe σ vs ∧ tt σ2 H2 fun b H3 =>
        if b = true then te σ2 H3 fun y H4 => ∃ acc, H4 D = some (.lst acc) ∧ acc.length < sizeLine ∧ Nx (upd H4 D (.lst (acc ++ [y]))) else Nx H3) := by
  refine lc_it w (fun i H => Ex H1 H ∧ H D = some (.lst (((List.range i).filter p).map f))) ⟨ex_new hD, upd_same⟩ (fun i H _ h => hG H h.1) (fun i x H H' hi ⟨e, hDi⟩ y => ?_) (fun H h => hd H h.1 h.2)
  refine hs i x H H' hi e y _ _ (fun hp H4 e4 => ⟨_, e4 D _ hDi, ?_, ex_mut (ex_trans e e4) hD, ?_⟩) (fun hp H4 e4 => ⟨ex_trans e e4, ?_⟩)
  · refine Nat.lt_of_le_of_lt ?_ hn
    rw [List.length_map]
    refine Nat.le_trans (List.length_filter_le ..) ?_
    rw [List.length_range]
    omega
  · rw [upd_same, List.range_succ, List.filter_append, List.map_append]
    simp [List.filter, hp]
  · rw [e4 D _ hDi, List.range_succ, List.filter_append, List.map_append]
    simp [List.filter, hp]
theorem filter_all {α : Type} (l : List α) : l.filter (fun _ => true) = l := by
  induction l with
  | nil => rfl
  | cons a l ih => rw [List.filter_cons_of_pos rfl, ih]
/-- without a test -/
theorem lc_map (w : Walk J n G Y) {g : TG} {te : TE} {vs : List Nat} {σ : L2.St} {H1 : Hp} {D : Addr} {Qd : Hp → Prop} (f : Nat → V) (hD : H1 D = none) (hn : n < sizeLine) (hG : ∀ H, Ex H1 H → G H)
    (hs : ∀ i x H H', i < n → Ex H1 H → Y i H x H' → ∀ (Q : VK) (Zf : Hp → Prop), (∀ H4, Ex H H4 → Q (f i) H4) →
      g x (wipe σ vs) H' fun σ2 H2 => wipe σ2 vs = wipe σ vs ∧ tYes σ2 H2 fun b H3 => if b = true then te σ2 H3 Q else Zf H3)
    (hd : ∀ H, Ex H1 H → H D = some (.lst ((List.range n).map f)) → Qd H) :
    ∃ W : Nat → Nat → Hp → Prop, (∃ m, W 0 m (upd H1 D (.lst []))) ∧ ∀ i m H, W i m H →
      (J.stop i H ∧ Qd H) ∨ (J.go i H ∧ ∃ Nx : Hp → Prop, (∀ H', Nx H' → ∃ m', m' < m ∧ W (i + 1) m' H') ∧ ∀ x H', J.yld i H x H' → g x (wipe σ vs) H' fun σ2 H2 => wipe σ2 vs = wipe σ vs ∧ tYes σ2 H2 fun b H3 =>
        if b = true then te σ2 H3 fun y H4 => ∃ acc, H4 D = some (.lst acc) ∧ acc.length < sizeLine ∧ Nx (upd H4 D (.lst (acc ++ [y]))) else Nx H3) :=
  lc_pure w (fun _ => true) f hD hn hG (fun i x H H' hi e y Q Zf h _ => hs i x H H' hi e y Q Zf (h rfl)) (fun H e h => hd H e (by rw [filter_all] at h; exact h))
end
end Z
namespace Z
open PySem PySem.Spec PyProof.Rows L2
/-! ### enumerate over a tuple -/
/-- the tuple's items with their places, each pair new -/
def IteT (K : PySem.W.Frag) (a : Addr) : It :=
  ⟨fun i H => ∃ (xs : List V) (x : V), SqT K H a xs ∧ xs[i]? = some x, fun i H v H' => ∃ T x, v = .ref T ∧ H T = none ∧ H' = upd H T (.tup [.int (i : Nat), x]) ∧ ∀ xs, SqT K H a xs → xs[i]? = some x,
    fun i H => ∃ xs : List V, SqT K H a xs ∧ xs.length = i⟩
theorem tupiter_ne {h : Heap} {it a : Addr} {i : Nat} {items : Array Value} (h1 : h.IsTupleIter it a i) (h2 : h.IsTuple a items) : a ≠ it := by
  intro z
  subst z
  obtain ⟨o, e, c, _⟩ := h1
  obtain ⟨o2, e2, c2, _⟩ := h2
  rw [e] at e2
  cases e2
  rw [c] at c2
  revert c2
  decide
theorem turn_enumT {P : Program} {w : World} {K : PySem.W.Frag} {elts : List Expr} {kk : Nat} {tpos : Pos} (a e it : Addr) :
    Turn P w K (.Tuple elts kk tpos) (IteT K a) [e, it] e (fun i h => (∃ old, IsEnum h e it ((i : Nat) : Int) old) ∧ h.IsTupleIter it a i ∧ e ≠ it ∧ e ≠ a) where
  mem := List.mem_cons_self ..
  obj := fun i h ⟨⟨old, he⟩, ⟨o, ho, _, hd⟩, _⟩ b hb => by
    rcases (show b = e ∨ b = it by simpa using hb) with rfl | rfl
    · exact ⟨_, he, fun v q => nomatch q⟩
    · exact ⟨o, ho, fun v q => by rw [hd] at q; cases q⟩
  keep := fun i h h' ⟨⟨old, he⟩, hi, hne⟩ k => ⟨⟨old, k e (by simp) _ he⟩, hi.at fun o q => k it (by simp) o q, hne⟩
  item := by
    intro X hP hw hK hc i pins s σ H E I hf st ⟨xs, x, hq, hx⟩
    subst hP hw hK
    obtain ⟨⟨old, he⟩, hit, hne, hea⟩ := st
    obtain ⟨its, rv, pt, hz⟩ := I.tuple hq
    obtain ⟨u, hu, ru⟩ := rv.get hx
    have hel : e < s.heap.objs.size := Heap.lt_size he
    have hil : it < s.heap.objs.size := by
      obtain ⟨_, q, _⟩ := hit
      exact Heap.lt_size q
    have hia : a ≠ it := tupiter_ne hit pt
    have hlt : i < its.toArray.size := by
      have := (List.getElem?_eq_some_iff.mp hu).1
      simpa using this
    have D : Draws X.prog X.w X.A.in1 it [it, a] its.toArray.size (fun i v => its.toArray[i]? = some v) (fun i h => h.IsTupleIter it a i ∧ h.IsTuple a its.toArray) :=
      Draws.tuple (show X.A.in1.handled = none from I.ok.hd hc) it a hia its.toArray
    refine wpAny_pyNext_enum_itemC D he ⟨hit, pt⟩ hlt hne (by simp [hne, hea]) fun y h' tk hy ho hst' hT hsz hk => ⟨_, rfl, ?_⟩
    refine wpAny_letOwnedTupleGo_enum (s := { s with heap := h', toks := tk + 1 }) ho fun h2 he2 sb => ?_
    have ey : y = u := by
      have q : its.toArray[i]? = some u := by simpa using hu
      rw [q] at hy
      exact (Option.some.inj hy).symm
    have hT2 := (sb.2 s.heap.objs.size (Nat.ne_of_gt hel)).trans hT
    rw [ey] at hT2
    have kept : ∀ b ob, b ∉ [e, it] → s.heap.get? b = some ob → h2.get? b = some ob := fun b ob hb q => by
      have n1 : b ≠ e := fun z => hb (by simp [z])
      have n2 : b ≠ it := fun z => hb (by simp [z])
      exact (sb.2 b n1).trans (hk b ob n1 n2 q)
    have hI := I.turnedNew (t' := tk + 1) (T := s.heap.objs.size) (ob := .tup [.int (i : Nat), x]) kept hf (Nat.le_refl _)
      ⟨(by decide : 2 ≤ sizeLine), [.int i tk, u], .cons ⟨_, rfl⟩ (.cons ru .nil), ⟨_, hT2, rfl, _, rfl⟩⟩
    refine ⟨.ref s.heap.objs.size, _, hI, rfl, ⟨_, x, rfl, I.hok.fresh (Nat.le_refl _), rfl, fun ys hy => by rw [I.tuple_inj hy hq]; exact hx⟩, ⟨⟨y, ?_⟩, hst'.1.at fun o q => (sb.2 it (Ne.symm hne)).trans q, hne, hea⟩, fun b hb => ?_⟩
    · rw [show ((i + 1 : Nat) : Int) = (i : Int) + 1 by omega]
      exact he2
    · have hb2 : b < s.heap.objs.size := by
        rcases (show b = e ∨ b = it by simpa using hb) with rfl | rfl
        · exact hel
        · exact hil
      rw [upd_ne (Nat.ne_of_lt hb2)]
      exact (hf b hb).1
  done := by
    intro X hP hw hK hc i pins s σ H E I hf st ⟨xs, hq, hx⟩
    subst hP hw hK
    obtain ⟨⟨old, he⟩, hit, hne, hea⟩ := st
    obtain ⟨its, rv, pt, hz⟩ := I.tuple hq
    have hia : a ≠ it := tupiter_ne hit pt
    have hl : its.toArray.size = i := by
      rw [← hx, rv.length]
      simp
    have D : Draws X.prog X.w X.A.in1 it [it, a] its.toArray.size (fun i v => its.toArray[i]? = some v) (fun i h => h.IsTupleIter it a i ∧ h.IsTuple a its.toArray) :=
      Draws.tuple (show X.A.in1.handled = none from I.ok.hd hc) it a hia its.toArray
    refine wpAny_pyNext_enum_endD D he ⟨by rw [hl]; exact hit, pt⟩ fun h' eb => ⟨rfl, I.turnedL (t' := s.toks) (ch := [e, it]) (fun b o hb q => eb b o (fun z => hb (by simp [z])) q) hf⟩
  self := fun A i s Q E ⟨⟨_, he⟩, _⟩ h => wpAny_pyIter_enum he h
theorem meets_enum1 {v : Value} {o : Obj} {G : Heap → Prop} (B : Begins v o G) :
    Meets (Builtin.«enumerate.__new__» ⟨[.type "enumerate", v], []⟩) (fun _ R s => G s.heap ∧ R (.ok (.ret (.ref (s.heap.push o).objs.size)))
      { s with heap := (s.heap.push o).push { cls := .type "enumerate", data := .fields #[.none, .bool false, .ref s.heap.objs.size, rawInt 0, .none, .none] } }) :=
  .of_wp fun prog w A R s ⟨h1, h⟩ => by
    obtain ⟨hp, gs, dr, tk, os⟩ := s
    have hsub := sub_enumerate
    have it1 : ∀ {A' : Around} {E : Value → Shared → Prop} {Q : Value → Shared → Prop}, Q (.ref hp.objs.size) ⟨hp.push o, gs, dr, tk, os⟩ → wpAny (model prog w) A' (pyIter v) Q E ⟨hp, gs, dr, tk, os⟩ :=
      fun q => B.iter prog w _ _ ⟨hp, gs, dr, tk, os⟩ _ h1 q
    wp_walk using it1
    refine wpAny_stack_any fun st => wpAny_pure ?_
    split
    · rename_i c _ _ _ _ _
      cases (c == Value.type "enumerate") <;> (wp_walk using it1; exact ⟨_, rfl, h⟩)
    · wp_walk using it1
      exact ⟨_, rfl, h⟩
/-- enumerate(t) of a tuple: two new objects -/
theorem call_enumT {P : Program} {w : World} {A : Around} {E : Value → Shared → Prop} {s : Shared} {t : Addr} {items : Array Value} {Q : Value → Shared → Prop} (ht : s.heap.IsTuple t items)
    (h : ∀ h', IsEnum h' (s.heap.objs.size + 1) s.heap.objs.size 0 .none → h'.IsTupleIter s.heap.objs.size t 0 → (∀ b o, s.heap.get? b = some o → h'.get? b = some o) → Q (.ref (s.heap.objs.size + 1)) { s with heap := h' }) :
    wpAny (model P w) A (call (.type "enumerate") [.ref t]) Q E s := by
  refine callType_new F.called_enumerate (by decide) (F.typeCall_enumerate_1 _) (F.newCall_enumerate_1 _) (fun obj => F.args_object_init_2 obj _) F.entry_enumerate_new (meets_enum1 (begins_tuple t items)) ⟨ht, ?_⟩
  have z1 : ∀ ob : Obj, (s.heap.push ob).objs.size = s.heap.objs.size + 1 := fun ob => Heap.size_push ..
  show _ ∧ _
  rw [z1]
  have q := Heap.get?_push_size (s.heap.push { cls := .type "tuple_iterator", data := .fields #[.ref t, .int 0 0] }) (o := { cls := .type "enumerate", data := .fields #[.none, .bool false, .ref s.heap.objs.size, rawInt 0, .none, .none] }) rfl
  rw [z1] at q
  exact ⟨⟨_, q, rfl⟩, h _ q ⟨_, Heap.get?_push_of_some _ (Heap.get?_push_size _ rfl), rfl, rfl⟩ fun b o x => Heap.get?_push_of_some _ (Heap.get?_push_of_some _ x)⟩
def iEnumT (K : PySem.W.Frag) (ta : TA) : TI := fun σ H R => ta σ H fun vs H1 => ∃ a xs, vs = [.ref a] ∧ SqT K H1 a xs ∧ R (IteT K a) H1
theorem pi_enumT {X : Cx} {e : Expr} {ta : TA} {p pos tpos : Pos} {elts : List Expr} {kk : Nat} (hg : Gl X "enumerate") (hm : X.mg "enumerate" = none) (ha : PA X [e] ta) (hs : starEach [e] X.env = [(false, eval e X.env)] := by rfl) :
    PI X (.Tuple elts kk tpos) (.Call (.Name "enumerate" p) [e] [] pos) (iEnumT X.K ta) := by
  refine ⟨fun pins s σ H R I h => Call_ (ld_blt I hg hm boot_enumerate (PyProof.Rows.callWith_type1 (thn (ha.run pos pins s σ H _ I h) fun us s1 ⟨vs, H1, I1, r1, a, xs, ex, hq, q⟩ => ?_) hs rfl))⟩
  subst ex
  rcases r1 with _ | ⟨r, rr⟩
  cases rr
  cases r
  obtain ⟨its, rv, pt, hz⟩ := I1.tuple hq
  refine call_enumT pt fun h' he hit hk => wpAny_pyIter_enum he ?_
  have la : a < s1.heap.objs.size := pt.lt
  refine ⟨s1.heap.objs.size + 1, [s1.heap.objs.size + 1, s1.heap.objs.size], _, _, H1, rfl, I1.kept (t' := s1.toks) hk, turn_enumT a _ _, ⟨⟨.none, he⟩, hit, Nat.succ_ne_self _, fun z => ?_⟩, fun b hb => ?_, q⟩
  · rw [← z] at la
    exact absurd la (Nat.not_lt.mpr (Nat.le_succ _))
  · have hle : s1.heap.objs.size ≤ b := by
      rcases (show b = s1.heap.objs.size + 1 ∨ b = s1.heap.objs.size by simpa using hb) with z | z
      · rw [z]
        exact Nat.le_succ _
      · rw [z]
        exact Nat.le_refl _
    exact I1.fpOk hle (I1.hok.fresh hle)
theorem walk_enumT {K : PySem.W.Frag} {a : Addr} {xs : List V} : Walk (IteT K a) xs.length (fun H => SqT K H a xs) (YPair (fun i => some (.int (i : Nat))) (fun i => xs[i]?)) := by
  refine ⟨fun i _ hi q => ⟨xs, xs[i], q, by simp [hi]⟩, fun _ q => ⟨xs, q, rfl⟩, fun i H v H' _ q ⟨T, x, h1, h2, h3, h4⟩ => ?_⟩
  exact ⟨T, .int (i : Nat), x, h1, h2, h3, rfl, h4 xs q⟩
end Z
namespace Z
open PySem PySem.Spec PyProof.Rows L2
local macro_rules | `(tactic| walk_at "look") => `(tactic| first | assumption | exact upd_same | exact SqL.of (by assumption) | exact SqT.of (by assumption) | exact SqL.of upd_same | exact SqT.of upd_same)
local macro_rules | `(tactic| walk_at "at") => `(tactic| first | exact at0 | exact at1 | exact at2 | exact at3 | exact ix0 | exact ix1 | assumption | exact atI_nat (by rfl))
local macro_rules | `(tactic| walk_at "sd") => `(tactic| ((try dsimp only); first | assumption | omega | (unfold CMul; omega) | (unfold CDiv; omega) | (unfold CPow; decide) | decide))
local macro_rules | `(tactic| walk_at "st") => `(tactic| first
  | (refine ⟨_, rfl, ?_⟩)
  | (refine ⟨_, _, rfl, rfl, ?_⟩)
  | (refine ⟨rfl, ?_⟩)
  | (refine .inl ⟨_, rfl, ?_⟩)
  | (refine ⟨_, _, _, _, rfl, rfl, (by walk_at "look"), (by walk_at "at"), ?_⟩)
  | (refine ⟨_, _, rfl, .inl (by walk_at "look"), ?_⟩)
  | (refine And.intro (by walk_at "sd") ?_)
  | fail "no step")
local macro_rules | `(tactic| walk_at "go") => `(tactic| repeat' (walk_at "st"))
local macro_rules | `(tactic| walk_at "ans") => `(tactic| (intro Q q; (repeat' (walk_at "st")); exact q))

/-- the law's source of numbers -/
def DSt (H : Hp) (d : Addr) : Prop := ∃ (s x : Int) (r : List Int), H d = some (.lst (.int s :: .int x :: r.map V.int)) ∧ 0 ≤ s ∧ s < 2147483647 ∧ 0 ≤ x ∧ (∀ y ∈ r, 0 ≤ y) ∧ r.length ≤ 63
@[irreducible] def sp_law_below (K : PySem.W.Frag) : Sp := fun vs H Q _ => ∃ (d : Addr) (n : Int), vs = [.ref d, .int n] ∧ DSt H d ∧ 0 < n ∧ n < 2 ^ 200 ∧
  ∀ (r : Int) (H' : Hp), 0 ≤ r → r < n → DSt H' d → Fx d H H' → Q (.int r) H'
def t_law_below_0a_0 (K : PySem.W.Frag) (E : XK) : TS := (tAsg (tBM K "list" rPopAt (tVar 0) (tCons (tC (.int 2)) tNil)) (gSub (tVar 0) (tC (.int 1)) rSetL))

def t_law_below_1a_2 (K : PySem.W.Frag) (E : XK) : TS := (tRet (tVar 2))

def t_law_below_1a_1 (K : PySem.W.Frag) (E : XK) : TS := tSeq (tAsg (tOp oFdvW (tOp (rIxL K) (tVar 0) (tC (.int 1))) (tVar 1)) (gSub (tVar 0) (tC (.int 1)) rSetL)) (t_law_below_1a_2 K E)

def t_law_below_1a_0 (K : PySem.W.Frag) (E : XK) : TS := tSeq (tAsg (tOp oMod (tCB cInt (tCons (tOp (rIxL K) (tVar 0) (tC (.int 1))) tNil)) (tVar 1)) (gName 2)) (t_law_below_1a_1 K E)

def t_law_below_3 (K : PySem.W.Frag) (E : XK) : TS := (tRet (tOp oMod (tCB cInt (tCons (tOp oFdv (tOp (rIxL K) (tVar 0) (tC (.int 0))) (tC (.int 64))) tNil)) (tVar 1)))

def t_law_below_2 (K : PySem.W.Frag) (E : XK) : TS := tSeq (tAsg (tOp oMod (tCB cInt (tCons (tOp oAdd (tOp oMul (tOp (rIxL K) (tVar 0) (tC (.int 0))) (tC (.int 48271))) (tC (.int 11))) tNil)) (tC (.int 2147483647))) (gSub (tVar 0) (tC (.int 0)) rSetL)) (t_law_below_3 K E)

@[irreducible] def t_law_below_1 (K : PySem.W.Frag) (E : XK) : TS := tSeq (tIfS (tTest (tOp oGt (tOp (rIxL K) (tVar 0) (tC (.int 1))) (tC (.int 0))))
    (t_law_below_1a_0 K E) tNext) (t_law_below_2 K E)

@[irreducible] def t_law_below_0 (K : PySem.W.Frag) (E : XK) : TS := tSeq (tIfS (tAnd (tTest (tOp rEq (tOp (rIxL K) (tVar 0) (tC (.int 1))) (tC (.int 0)))) (tTest (tOp oGt (tCB (cLen K) (tCons (tVar 0) tNil)) (tC (.int 2)))))
    (t_law_below_0a_0 K E) tNext) (t_law_below_1 K E)

theorem below_1 {K : PySem.W.Frag} {E : XK} {D : Ends} {d : Addr} {n : Int} {H : Hp} (hD : DSt H d) (hn0 : 0 < n) (hn1 : n < 2 ^ 200)
    (k : ∀ (r : Int) (H' : Hp), 0 ≤ r → r < n → DSt H' d → Fx d H H' → D.rt (.int r) H') : t_law_below_1 K E D [some (.ref d), some (.int n), none] H := by
  obtain ⟨s, x, r, hd, hs0, hs1, hx0, hr0, hrl⟩ := hD
  unfold t_law_below_1
  refine if_go (decide (0 < x)) (by walk_at "ans") (fun c => ?_) (fun c => ?_)
  · have hx : 0 < x := of_decide_eq_true c
    have hw : CDivW x n := wide_div hn0 (b := 200) (by omega) (by decide) (by decide)
    walk_at "go"
    refine k _ _ (Int.emod_nonneg _ (by omega)) (Int.emod_lt_of_pos _ hn0) ?_ fx_upd
    exact ⟨s, x / n, r, upd_same, hs0, hs1, Int.ediv_nonneg hx0 (by omega), hr0, hrl⟩
  · walk_at "go"
    refine k _ _ (Int.emod_nonneg _ (by omega)) (Int.emod_lt_of_pos _ hn0) ?_ fx_upd
    exact ⟨(s * 48271 + 11) % 2147483647, x, r, upd_same, Int.emod_nonneg _ (by omega), Int.emod_lt_of_pos _ (by omega), hx0, hr0, hrl⟩
theorem pure_law_below {K : PySem.W.Frag} (vs : List V) (H : Hp) (Q : VK) (E : XK) (h : sp_law_below K vs H Q E) : t_law_below_0 K E { nx := fun _ H' => Q .non H', rt := Q } (start ["_law_d", "_law_size", "_law_result"] vs) H := by
  unfold sp_law_below at h
  obtain ⟨d, n, rfl, hD, hn0, hn1, k⟩ := h
  show t_law_below_0 K E _ [some (.ref d), some (.int n), none] H
  unfold t_law_below_0
  obtain ⟨s, x, r, hd, hs0, hs1, hx0, hr0, hrl⟩ := id hD
  refine if_go (decide (V.int x = V.int 0) && decide (2 < ((r.map V.int).length : Int) + 1 + 1)) (fun Q q => and_go (decide (V.int x = V.int 0)) (decide (2 < ((r.map V.int).length : Int) + 1 + 1)) (by walk_at "ans") ?_ q) (fun c => ?_) (fun c => ?_)
  · intro _
    walk_at "ans"
  · rw [List.length_map] at c
    have c2 : 0 < r.length := by
      have := (Bool.and_eq_true_iff.mp c).2
      have := of_decide_eq_true this
      omega
    obtain ⟨y, r2, rfl⟩ : ∃ y r2, r = y :: r2 := by
      cases r with
      | nil => cases c2
      | cons y r2 => exact ⟨y, r2, rfl⟩
    have hi : seqIndex? 2 (V.int s :: V.int x :: (y :: r2).map V.int).length = some 2 := by
      unfold seqIndex?
      simp
      omega
    have ht : tyV K "list" (.ref d) H := .inl ⟨rfl, _, SqL.of hd⟩
    refine ⟨_, rfl, ht, d, _, 2, 2, _, rfl, rfl, hd, by decide, by decide, hi, rfl, ?_⟩
    walk_at "go"
    refine below_1 ⟨s, y, r2, upd_same, hs0, hs1, hr0 y (List.mem_cons_self ..), fun z hz => hr0 z (List.mem_cons_of_mem _ hz), by have := hrl; rw [List.length_cons] at this; omega⟩ hn0 hn1 fun r H' h1 h2 h3 h4 => k r H' h1 h2 h3 (fx_trans (fx_trans fx_upd fx_upd) h4)
  · exact below_1 hD hn0 hn1 k

/-- one of some items -/
@[irreducible] def sp_law_pick (K : PySem.W.Frag) : Sp := fun vs H Q _ => ∃ (d l : Addr) (xs : List V), vs = [.ref d, .ref l] ∧ DSt H d ∧ H l = some (.lst xs) ∧ l ≠ d ∧ xs ≠ [] ∧ xs.length ≤ 1000 ∧
  ∀ (i : Nat) (v : V) (H' : Hp), xs[i]? = some v → DSt H' d → Fx d H H' → Q v H'
def t_law_pick_0 (K : PySem.W.Frag) (E : XK) : TS := (tRet (tOp (rIxL K) (tVar 1) (tCall (sp_law_below K) [] E0 (tCons (tVar 0) (tCons (tCB (cLen K) (tCons (tVar 1) tNil)) tNil)))))

theorem pure_law_pick {K : PySem.W.Frag} (vs : List V) (H : Hp) (Q : VK) (E : XK) (h : sp_law_pick K vs H Q E) : t_law_pick_0 K E { nx := fun _ H' => Q .non H', rt := Q } (start ["_law_d", "_law_items"] vs) H := by
  unfold sp_law_pick at h
  obtain ⟨d, l, xs, rfl, hD, hl, nl, hne, hlen, k⟩ := h
  have h0 : 0 < xs.length := List.length_pos_iff.mpr hne
  walk_at "go"
  unfold sp_law_below
  refine ⟨d, xs.length, rfl, hD, by omega, by omega, fun r H' h1 h2 h3 h4 => ?_⟩
  have hr : r.toNat < xs.length := by omega
  have e : r = ((r.toNat : Nat) : Int) := by omega
  refine ⟨l, xs, r, xs[r.toNat], rfl, rfl, SqL.of (h4 l _ nl hl), at_of e (List.getElem?_eq_getElem hr), ?_⟩
  exact k r.toNat _ H' (List.getElem?_eq_getElem hr) h3 h4

end Z
namespace Z
open PySem PySem.Spec PyProof.Rows L2
local macro_rules | `(tactic| walk_at "look") => `(tactic| first | assumption | exact upd_same | exact SqL.of (by assumption) | exact SqT.of (by assumption) | exact SqL.of upd_same | exact SqT.of upd_same)
local macro_rules | `(tactic| walk_at "at") => `(tactic| first | exact at0 | exact at1 | exact at2 | exact at3 | exact ix0 | exact ix1 | assumption | exact atI_nat (by rfl))
local macro_rules | `(tactic| walk_at "sd") => `(tactic| ((try dsimp only); first | assumption | omega | (unfold CMul; omega) | (unfold CDiv; omega) | (unfold CPow; decide) | decide))
local macro_rules | `(tactic| walk_at "st") => `(tactic| first
  | (refine ⟨_, rfl, ?_⟩)
  | (refine ⟨_, _, rfl, rfl, ?_⟩)
  | (refine ⟨rfl, ?_⟩)
  | (refine .inl ⟨_, rfl, ?_⟩)
  | (refine ⟨_, _, _, _, rfl, rfl, (by walk_at "look"), (by walk_at "at"), ?_⟩)
  | (refine ⟨_, _, rfl, .inl (by walk_at "look"), ?_⟩)
  | (refine And.intro (by walk_at "sd") ?_)
  | fail "no step")
local macro_rules | `(tactic| walk_at "go") => `(tactic| repeat' (walk_at "st"))
local macro_rules | `(tactic| walk_at "ans") => `(tactic| (intro Q q; (repeat' (walk_at "st")); exact q))

/-! ### what a value is between -/
def isBet : PyData → Int → Int → Bool
  | .int i, a, b => decide (a ≤ i) && decide (i ≤ b)
  | _, _, _ => false
@[irreducible] def sp_is_between (K : PySem.W.Frag) : Sp := fun vs H Q _ => ∃ (v : V) (d : PyData) (a b : Int), vs = [v, .int a, .int b] ∧ Dp K H v d ∧ Q (.bl (isBet d a b)) H
def t_is_between_0 (K : PySem.W.Frag) (E : XK) : TS := (tRet (tAndV (tCB (rIsi K) (tCons (tVar 0) (tCons (tC (.ty "int")) tNil))) (tAndV (tNotV (tCB (rIsi K) (tCons (tVar 0) (tCons (tC (.ty "bool")) tNil)))) (tChain oLe oLe (tVar 1) (tVar 0) (tVar 2)))))

theorem pure_is_between {K : PySem.W.Frag} (vs : List V) (H : Hp) (Q : VK) (E : XK) (h : sp_is_between K vs H Q E) : t_is_between_0 K E { nx := fun _ H' => Q .non H', rt := Q } (start ["value", "least", "most"] vs) H := by
  unfold sp_is_between at h
  obtain ⟨v, d, a, b, rfl, hd, k⟩ := h
  show t_is_between_0 K E _ [some v, some (.int a), some (.int b)] H
  have i1 : ∀ (b1 : Bool), kitB (tyN d) "int" = some b1 → ∀ Q : VK, Q (.bl b1) H → (tCB (rIsi K) (tCons (tVar 0) (tCons (tC (.ty "int")) tNil))) [some v, some (.int a), some (.int b)] H Q :=
    fun b1 e Q q => ⟨v, rfl, isi_go hd e q⟩
  have i2 : ∀ (b1 : Bool), kitB (tyN d) "bool" = some b1 → ∀ Q : VK, Q (.bl (!b1)) H → (tNotV (tCB (rIsi K) (tCons (tVar 0) (tCons (tC (.ty "bool")) tNil)))) [some v, some (.int a), some (.int b)] H Q :=
    fun b1 e Q q => ⟨v, rfl, isi_go (Q := fun x H' => ∃ c, x = .bl c ∧ Q (.bl (!c)) H') hd e ⟨b1, rfl, q⟩⟩
  cases d with
  | int i =>
    obtain rfl := dp_int hd
    refine andV_go true (decide (a ≤ i) && decide (i ≤ b)) (i1 true (show kitB "int" "int" = some true by decide +kernel)) (fun _ Q q => andV_go true (decide (a ≤ i) && decide (i ≤ b)) (i2 false (show kitB "int" "bool" = some false by decide +kernel)) (fun _ Q q => ?_) q) k
    refine ⟨_, rfl, _, rfl, a, i, rfl, rfl, _, rfl, ?_⟩
    by_cases c : a ≤ i
    · rw [decide_eq_true c] at q ⊢
      exact iteT ⟨_, rfl, i, b, rfl, rfl, q⟩
    · rw [decide_eq_false c] at q ⊢
      exact iteF q
  | bool x =>
    exact andV_go true false (i1 true (show kitB "bool" "int" = some true by decide +kernel)) (fun _ Q q => andV_go false false (i2 true (show kitB "bool" "bool" = some true by decide +kernel)) (fun z => nomatch z) q) k
  | none => exact andV_go false false (i1 false (show kitB "NoneType" "int" = some false by decide +kernel)) (fun z => nomatch z) k
  | str x => exact andV_go false false (i1 false (show kitB "str" "int" = some false by decide +kernel)) (fun z => nomatch z) k
  | list x => exact andV_go false false (i1 false (show kitB "list" "int" = some false by decide +kernel)) (fun z => nomatch z) k
  | tuple x => exact andV_go false false (i1 false (show kitB "tuple" "int" = some false by decide +kernel)) (fun z => nomatch z) k
  | dict x => exact andV_go false false (i1 false (show kitB "dict" "int" = some false by decide +kernel)) (fun z => nomatch z) k

/-! ### verses -/
theorem str_beq (a b : Str) : (a == b) = decide (b = a) := by
  by_cases h : b = a
  · rw [decide_eq_true h, h]
    exact beq_self_eq_true a
  · rw [decide_eq_false h]
    exact beq_false_of_ne fun z => h z.symm
def isVerse : PyData → Bool
  | .tuple [d0, d1] => (match d0 with
    | .str x => (decide (x = "on") || decide (x = "back")) && isBet d1 1 6
    | _ => false)
  | _ => false
@[irreducible] def sp_is_verse (K : PySem.W.Frag) : Sp := fun vs H Q _ => ∃ (v : V) (d : PyData), vs = [v] ∧ Dp K H v d ∧ ∀ H', Ex H H' → Q (.bl (isVerse d)) H'
def t_is_verse_0a_0 (K : PySem.W.Frag) (E : XK) : TS := (tRet (tC (.bl false)))

def t_is_verse_1 (K : PySem.W.Frag) (E : XK) : TS := (tRet (tAndV (tOp (rIn K false) (tOp (rIxT K) (tVar 0) (tC (.int 0))) (tTup (tCons (tC (.str "on")) (tCons (tC (.str "back")) tNil)))) (tCall (sp_is_between K) [] E0 (tCons (tOp (rIxT K) (tVar 0) (tC (.int 1))) (tCons (tC (.int 1)) (tCons (tC (.int 6)) tNil))))))

@[irreducible] def t_is_verse_0 (K : PySem.W.Frag) (E : XK) : TS := tSeq (tIfS (tOr (tNot (tB (tCB (rIsi K) (tCons (tVar 0) (tCons (tC (.ty "tuple")) tNil))))) (tOr (tTest (tOp rNe (tCB (cLen K) (tCons (tVar 0) tNil)) (tC (.int 2)))) (tNot (tB (tCB (rIsi K) (tCons (tOp (rIxT K) (tVar 0) (tC (.int 0))) (tCons (tC (.ty "str")) tNil)))))))
    (t_is_verse_0a_0 K E) tNext) (t_is_verse_1 K E)

theorem verse_no {K : PySem.W.Frag} {H : Hp} {v : V} {d : PyData} {Q : VK} {E : XK} (h : Dp K H v d) (hn : kitB (tyN d) "tuple" = some false) (k : Q (.bl false) H) :
    t_is_verse_0 K E { nx := fun _ H' => Q .non H', rt := Q } [some v] H := by
  unfold t_is_verse_0
  refine if_go true (fun Q q => or_go true false (fun Q q => ⟨v, rfl, isi_go (Q := fun x H' => ∃ c, x = .bl c ∧ Q (!c) H') h hn ⟨false, rfl, q⟩⟩) (fun z => nomatch z) q) (fun _ => ?_) (fun z => nomatch z)
  exact k
theorem pure_is_verse {K : PySem.W.Frag} (vs : List V) (H : Hp) (Q : VK) (E : XK) (h : sp_is_verse K vs H Q E) : t_is_verse_0 K E { nx := fun _ H' => Q .non H', rt := Q } (start ["value"] vs) H := by
  unfold sp_is_verse at h
  obtain ⟨v, d, rfl, hd, k⟩ := h
  show t_is_verse_0 K E _ [some v] H
  cases d with
  | none => exact verse_no hd (show kitB "NoneType" "tuple" = some false by decide +kernel) (k H (ex_refl H))
  | bool x => exact verse_no hd (show kitB "bool" "tuple" = some false by decide +kernel) (k H (ex_refl H))
  | int x => exact verse_no hd (show kitB "int" "tuple" = some false by decide +kernel) (k H (ex_refl H))
  | str x => exact verse_no hd (show kitB "str" "tuple" = some false by decide +kernel) (k H (ex_refl H))
  | list x => exact verse_no hd (show kitB "list" "tuple" = some false by decide +kernel) (k H (ex_refl H))
  | dict x => exact verse_no hd (show kitB "dict" "tuple" = some false by decide +kernel) (k H (ex_refl H))
  | tuple ds =>
    have hy : kitB (tyN (.tuple ds)) "tuple" = some true := show kitB "tuple" "tuple" = some true by decide +kernel
    obtain ⟨a, xs, rfl, hs, hall⟩ := dp_tup hd
    have hl := dpa_len hall
    have h1 : ∀ Q : Bool → Hp → Prop, Q false H → (tNot (tB (tCB (rIsi K) (tCons (tVar 0) (tCons (tC (.ty "tuple")) tNil))))) [some (V.ref a)] H Q := fun Q q =>
      ⟨_, rfl, isi_go (Q := fun x H' => ∃ c, x = .bl c ∧ Q (!c) H') hd hy ⟨true, rfl, q⟩⟩
    have h2 : ∀ Q : Bool → Hp → Prop, Q (!decide (V.int (xs.length : Int) = V.int 2)) H → (tTest (tOp rNe (tCB (cLen K) (tCons (tVar 0) tNil)) (tC (.int 2)))) [some (V.ref a)] H Q := fun Q q =>
      ⟨_, rfl, a, xs, rfl, .inr hs, rfl, _, rfl, q⟩
    unfold t_is_verse_0
    by_cases hlen : xs.length = 2
    · obtain ⟨x0, x1, rfl⟩ : ∃ x0 x1, xs = [x0, x1] := by
        match xs, hlen with
        | [x0, x1], _ => exact ⟨x0, x1, rfl⟩
      cases hall with
      | cons e0 r =>
        rename_i d0 ds
        cases r with
        | cons e1 r =>
          rename_i d1 ds
          cases r
          have h3 : ∀ b1, kitB (tyN d0) "str" = some b1 → ∀ Q : Bool → Hp → Prop, Q (!b1) H → (tNot (tB (tCB (rIsi K) (tCons (tOp (rIxT K) (tVar 0) (tC (.int 0))) (tCons (tC (.ty "str")) tNil))))) [some (V.ref a)] H Q := fun b1 e Q q =>
            ⟨_, rfl, a, _, 0, x0, rfl, rfl, hs, at0, isi_go (Q := fun x H' => ∃ c, x = .bl c ∧ Q (!c) H') e0 e ⟨b1, rfl, q⟩⟩
          have go : ∀ b1, kitB (tyN d0) "str" = some b1 → (b1 = false → isVerse (.tuple [d0, d1]) = false) → (b1 = true → ∃ x, d0 = .str x) →
              tSeq (tIfS (tOr (tNot (tB (tCB (rIsi K) (tCons (tVar 0) (tCons (tC (.ty "tuple")) tNil))))) (tOr (tTest (tOp rNe (tCB (cLen K) (tCons (tVar 0) tNil)) (tC (.int 2)))) (tNot (tB (tCB (rIsi K) (tCons (tOp (rIxT K) (tVar 0) (tC (.int 0))) (tCons (tC (.ty "str")) tNil)))))))
                (t_is_verse_0a_0 K E) tNext) (t_is_verse_1 K E) { nx := fun _ H' => Q .non H', rt := Q } [some (V.ref a)] H := fun b1 e f1 f2 => by
            refine if_go (!b1) (fun Q q => or_go false (!b1) h1 (fun _ Q q => or_go false (!b1) (fun Q q => h2 Q (by rw [d_int]; exact q)) (fun _ => h3 b1 e) q) q) (fun c => ?_) (fun c => ?_)
            · have c2 : b1 = false := by simpa using c
              show Q (.bl false) H
              rw [← f1 c2]
              exact k H (ex_refl H)
            · have c2 : b1 = true := by simpa using c
              obtain ⟨x, rfl⟩ := f2 c2
              obtain rfl := dp_str e0
              refine ⟨_, rfl, a, _, 0, _, rfl, rfl, hs, at0, by decide, fun p hp => ?_⟩
              have hE : Ex H (upd H p (.tup [.str "on", .str "back"])) := ex_new hp
              have r1 : inV (.str x) [.str "on", .str "back"] = (decide (x = "on") || decide (x = "back")) := by
                show ((("on" : Str) == x) || ((("back" : Str) == x) || false)) = _
                rw [Bool.or_false, str_beq, str_beq]
              refine ⟨p, _, rfl, .inr (SqT.of upd_same), rfl, rfl, _, rfl, ?_⟩
              rw [if_neg Bool.false_ne_true, r1]
              by_cases c3 : (decide (x = "on") || decide (x = "back")) = true
              · rw [c3]
                refine iteT ⟨_, rfl, a, _, 1, x1, rfl, rfl, sqt_ex hE hs, at1, ?_⟩
                unfold sp_is_between
                refine ⟨x1, d1, 1, 6, rfl, dp_ex hE e1, ?_⟩
                have e5 : isBet d1 1 6 = isVerse (.tuple [.str x, d1]) := by
                  show _ = ((decide (x = "on") || decide (x = "back")) && isBet d1 1 6)
                  rw [c3, Bool.true_and]
                rw [e5]
                exact k _ hE
              · have c4 : (decide (x = "on") || decide (x = "back")) = false := by simpa using c3
                rw [c4]
                refine iteF ?_
                have e5 : false = isVerse (.tuple [.str x, d1]) := by
                  show _ = ((decide (x = "on") || decide (x = "back")) && isBet d1 1 6)
                  rw [c4, Bool.false_and]
                show Q (.bl false) _
                rw [e5]
                exact k _ hE
          cases d0 with
          | str x => exact go true (show kitB "str" "str" = some true by decide +kernel) (fun z => nomatch z) (fun _ => ⟨x, rfl⟩)
          | none => exact go false (show kitB "NoneType" "str" = some false by decide +kernel) (fun _ => rfl) (fun z => nomatch z)
          | bool x => exact go false (show kitB "bool" "str" = some false by decide +kernel) (fun _ => rfl) (fun z => nomatch z)
          | int x => exact go false (show kitB "int" "str" = some false by decide +kernel) (fun _ => rfl) (fun z => nomatch z)
          | list x => exact go false (show kitB "list" "str" = some false by decide +kernel) (fun _ => rfl) (fun z => nomatch z)
          | tuple x => exact go false (show kitB "tuple" "str" = some false by decide +kernel) (fun _ => rfl) (fun z => nomatch z)
          | dict x => exact go false (show kitB "dict" "str" = some false by decide +kernel) (fun _ => rfl) (fun z => nomatch z)
    · refine if_go true (fun Q q => or_go false true h1 (fun _ Q q => or_go true false (fun Q q => h2 Q (by rw [d_int, decide_eq_false (by omega)]; exact q)) (fun z => nomatch z) q) q) (fun _ => ?_) (fun z => nomatch z)
      have : isVerse (.tuple ds) = false := by
        match ds, hl with
        | [], _ => rfl
        | [_], _ => rfl
        | [_, _], h => exact absurd h hlen
        | _ :: _ :: _ :: _, _ => rfl
      show Q (.bl false) H
      rw [← this]
      exact k H (ex_refl H)

end Z
namespace Z
open PySem PySem.Spec PyProof.Rows L2
local macro_rules | `(tactic| walk_at "look") => `(tactic| first | assumption | exact upd_same | exact SqL.of (by assumption) | exact SqT.of (by assumption) | exact SqL.of upd_same | exact SqT.of upd_same)
local macro_rules | `(tactic| walk_at "at") => `(tactic| first | exact at0 | exact at1 | exact at2 | exact at3 | exact ix0 | exact ix1 | assumption | exact atI_nat (by rfl))
local macro_rules | `(tactic| walk_at "sd") => `(tactic| ((try dsimp only); first | assumption | omega | (unfold CMul; omega) | (unfold CDiv; omega) | (unfold CPow; decide) | decide))
local macro_rules | `(tactic| walk_at "st") => `(tactic| first
  | (refine ⟨_, rfl, ?_⟩)
  | (refine ⟨_, _, rfl, rfl, ?_⟩)
  | (refine ⟨rfl, ?_⟩)
  | (refine .inl ⟨_, rfl, ?_⟩)
  | (refine ⟨_, _, _, _, rfl, rfl, (by walk_at "look"), (by walk_at "at"), ?_⟩)
  | (refine ⟨_, _, rfl, .inl (by walk_at "look"), ?_⟩)
  | (refine And.intro (by walk_at "sd") ?_)
  | fail "no step")
local macro_rules | `(tactic| walk_at "go") => `(tactic| repeat' (walk_at "st"))
local macro_rules | `(tactic| walk_at "ans") => `(tactic| (intro Q q; (repeat' (walk_at "st")); exact q))

/-! ### rhymes: verses as data -/
abbrev Ve := Bool × Int
def wayS (b : Bool) : Str := if b then "on" else "back"
def vD (v : Ve) : PyData := .tuple [.str (wayS v.1), .int v.2]
def vsD (vs : List Ve) : PyData := .tuple (vs.map vD)
def riseOf (v : Ve) : Int := if v.1 then v.2 else 1 - v.2
def rises (vs : List Ve) : List Int := vs.map riseOf
/-- a right rhyme -/
structure RhOk (vs : List Ve) (left : Int) : Prop where
  l1 : 1 ≤ vs.length
  l4 : vs.length ≤ 4
  cnt : ∀ v ∈ vs, 1 ≤ v.2 ∧ v.2 ≤ 6
  lf : 1 ≤ left ∧ left ≤ 3
def rhF (tv : V) (left : Int) (tr : Addr) : List (Str × V) := putF "rises" (.ref tr) (putF "own_left" (.int left) (putF "own_verses" tv []))
theorem rhF_v (tv : V) (left : Int) (tr : Addr) : (rhF tv left tr).lookup ("own_verses" : Str) = some tv := by
  unfold rhF
  rw [lookup_putF, if_neg (by decide +kernel), lookup_putF, if_neg (by decide +kernel), lookup_putF, if_pos rfl]
theorem rhF_l (tv : V) (left : Int) (tr : Addr) : (rhF tv left tr).lookup ("own_left" : Str) = some (.int left) := by
  unfold rhF
  rw [lookup_putF, if_neg (by decide +kernel), lookup_putF, if_pos rfl]
theorem rhF_r (tv : V) (left : Int) (tr : Addr) : (rhF tv left tr).lookup ("rises" : Str) = some (.ref tr) := by
  unfold rhF
  rw [lookup_putF, if_pos rfl]
theorem rhF_no (tv : V) (left : Int) (tr : Addr) {m : Str} (h1 : ¬ m = "rises") (h2 : ¬ m = "own_left") (h3 : ¬ m = "own_verses") : (rhF tv left tr).lookup m = none := by
  unfold rhF
  rw [lookup_putF, if_neg h1, lookup_putF, if_neg h2, lookup_putF, if_neg h3]
  rfl
/-- the class as the top leaves it -/
structure RhC (K : PySem.W.Frag) : Prop where
  cl : Cls K (He.ga K "Rhyme")
  nv : NoAttr K (He.ga K "Rhyme") "own_verses"
  nl : NoAttr K (He.ga K "Rhyme") "own_left"
  nr : NoAttr K (He.ga K "Rhyme") "rises"
/-- a rhyme stands at a -/
def RhAt (K : PySem.W.Frag) (H : Hp) (a : Addr) (vs : List Ve) (left : Int) : Prop :=
  ∃ (dx : Addr) (tv : V) (tr : Addr), H a = some (.ins (He.ga K "Rhyme") dx (rhF tv left tr)) ∧ Dp K H tv (vsD vs) ∧ SqT K H tr ((rises vs).map V.int)
theorem rh_ex {K : PySem.W.Frag} {H H' : Hp} {a : Addr} {vs : List Ve} {left : Int} (e : Ex H H') (h : RhAt K H a vs left) : RhAt K H' a vs left := by
  obtain ⟨dx, tv, tr, h1, h2, h3⟩ := h
  exact ⟨dx, tv, tr, e _ _ h1, dp_ex e h2, sqt_ex e h3⟩
theorem vsD_flat (vs : List Ve) : flatD (vsD vs) = true := by
  show flatDs (vs.map vD) = true
  induction vs with
  | nil => rfl
  | cons v vs ih =>
    show (flatD (vD v) && flatDs (vs.map vD)) = true
    rw [ih]
    rfl
theorem rh_fx {K : PySem.W.Frag} {H H' : Hp} {a d : Addr} {vs : List Ve} {left : Int} (hd : NoT (H d)) (na : a ≠ d) (e : Fx d H H') (h : RhAt K H a vs left) : RhAt K H' a vs left := by
  obtain ⟨dx, tv, tr, h1, h2, h3⟩ := h
  exact ⟨dx, tv, tr, e _ _ na h1, dp_fxN hd e (vsD_flat vs) h2, sqt_fxN hd e h3⟩
theorem isVerse_vD {v : Ve} (h : 1 ≤ v.2 ∧ v.2 ≤ 6) : isVerse (vD v) = true := by
  show ((decide (wayS v.1 = "on") || decide (wayS v.1 = "back")) && (decide (1 ≤ v.2) && decide (v.2 ≤ 6))) = true
  rw [decide_eq_true h.1, decide_eq_true h.2]
  cases v.1 <;> rfl
/-- the i-th verse's own tuple -/
theorem vs_at {K : PySem.W.Frag} {H : Hp} {xs : List V} {vs : List Ve} {i : Nat} {x : V} (h : DpAll K H xs (vs.map vD)) (e : xs[i]? = some x) :
    ∃ v t, vs[i]? = some v ∧ x = .ref t ∧ SqT K H t [.str (wayS v.1), .int v.2] := by
  obtain ⟨d, h1, h2⟩ := dpa_get' h e
  rw [List.getElem?_map] at h1
  cases q : vs[i]? with
  | none =>
    rw [q] at h1
    cases h1
  | some v =>
    rw [q] at h1
    have e2 : vD v = d := Option.some.inj h1
    subst e2
    obtain ⟨t, ys, rfl, hs, ha⟩ := dp_tup h2
    refine ⟨v, t, rfl, rfl, ?_⟩
    cases ha with
    | cons a1 r =>
      cases r with
      | cons a2 r =>
        cases r
        rw [dp_str a1, dp_int a2] at hs
        exact hs
@[irreducible] def sp_Rhymeu_initu (K : PySem.W.Frag) : Sp := fun ws H Q _ => ∃ (p dx : Addr) (v : V) (vs : List Ve) (left : Int), ws = [.ref p, v, .int left] ∧ H p = some (.ins (He.ga K "Rhyme") dx []) ∧ Dp K H v (vsD vs) ∧ RhOk vs left ∧
  ∀ H' : Hp, RhAt K H' p vs left → (∀ b o, H b = some o → b ≠ p → H' b = some o) → Q .non H'
def t_Rhymeu_initu_0a_0 (K : PySem.W.Frag) (E : XK) : TS := tNever

def t_Rhymeu_initu_1a_0a_0 (K : PySem.W.Frag) (E : XK) : TS := tNever

@[irreducible] def t_Rhymeu_initu_1a_0 (K : PySem.W.Frag) (E : XK) : TS := (tIfS (tNot (tB (tCall (sp_is_verse K) [] E0 (tCons (tVar 4) tNil))))
    (t_Rhymeu_initu_1a_0a_0 K E) tNext)

def t_Rhymeu_initu_2a_0 (K : PySem.W.Frag) (E : XK) : TS := tNever

def t_Rhymeu_initu_5 (K : PySem.W.Frag) (E : XK) : TS := (sFld K (tVar 0) (tCB (cTup K) (tCons (tLc (iTup K (tVar 1)) (gTup K 2 (gCons (gName 5) (gCons (gName 6) gNil))) tYes (tIf (tTest (tOp rEq (tVar 5) (tC (.str "on")))) (tVar 6) (tOp oSub (tC (.int 1)) (tVar 6))) [5, 6]) tNil)) "rises")

def t_Rhymeu_initu_4 (K : PySem.W.Frag) (E : XK) : TS := tSeq (sFld K (tVar 0) (tVar 2) "own_left") (t_Rhymeu_initu_5 K E)

def t_Rhymeu_initu_3 (K : PySem.W.Frag) (E : XK) : TS := tSeq (sFld K (tVar 0) (tVar 1) "own_verses") (t_Rhymeu_initu_4 K E)

@[irreducible] def t_Rhymeu_initu_2 (K : PySem.W.Frag) (E : XK) : TS := tSeq (tIfS (tNot (tB (tCall (sp_is_between K) [] E0 (tCons (tVar 2) (tCons (tC (.int 1)) (tCons (tC (.int 3)) tNil))))))
    (t_Rhymeu_initu_2a_0 K E) tNext) (t_Rhymeu_initu_3 K E)

@[irreducible] def t_Rhymeu_initu_1 (K : PySem.W.Frag) (E : XK) : TS := tSeq (tFor (iEnumT K (tCons (tVar 1) tNil)) (gTup K 2 (gCons (gName 3) (gCons (gName 4) gNil)))
    (t_Rhymeu_initu_1a_0 K E)) (t_Rhymeu_initu_2 K E)

@[irreducible] def t_Rhymeu_initu_0 (K : PySem.W.Frag) (E : XK) : TS := tSeq (tIfS (tOr (tNot (tB (tCB (rIsi K) (tCons (tVar 1) (tCons (tC (.ty "tuple")) tNil))))) (tNot (tTest (tChain oLe oLe (tC (.int 1)) (tCB (cLen K) (tCons (tVar 1) tNil)) (tC (.int 4))))))
    (t_Rhymeu_initu_0a_0 K E) tNext) (t_Rhymeu_initu_1 K E)

theorem init_3 {K : PySem.W.Frag} {E : XK} {D : Ends} {p dx : Addr} {s3 s4 : Option V} {tv : V} {vs : List Ve} {left : Int} {H : Hp} (T : RhC K) (hp : H p = some (.ins (He.ga K "Rhyme") dx [])) (hv : Dp K H tv (vsD vs)) (hn : vs.length ≤ 4)
    (k : ∀ (σ' : L2.St) (H' : Hp), RhAt K H' p vs left → (∀ b o, H b = some o → b ≠ p → H' b = some o) → D.nx σ' H') : t_Rhymeu_initu_3 K E D [some (.ref p), some tv, some (.int left), s3, s4, none, none] H := by
  obtain ⟨a, xs, rfl, hs, hall⟩ := dp_tup hv
  have hl : xs.length = vs.length := by
    have := dpa_len hall
    rw [List.length_map] at this
    exact this
  refine ⟨_, rfl, _, rfl, p, _, dx, _, rfl, hp, T.cl, T.nv, (by show 0 < 1000; decide), ?_⟩
  refine ⟨_, rfl, _, rfl, p, _, dx, _, rfl, upd_same, T.cl, T.nl, (by show 1 < 1000; decide), ?_⟩
  rw [upd_upd]
  generalize hH2 : upd H p (.ins (He.ga K "Rhyme") dx (putF "own_left" (.int left) (putF "own_verses" (.ref a) []))) = H2
  have hp2 : H2 p = some (.ins (He.ga K "Rhyme") dx (putF "own_left" (.int left) (putF "own_verses" (.ref a) []))) := by
    rw [← hH2]
    exact upd_same
  have fx2 : Fx p H H2 := by
    rw [← hH2]
    exact fx_upd
  have hv2 : Dp K H2 (.ref a) (vsD vs) := dp_fxN (noT_i hp) fx2 (vsD_flat vs) hv
  have hs2 : SqT K H2 a xs := sqt_fxN (noT_i hp) fx2 hs
  have hall2 : DpAll K H2 xs (vs.map vD) := dpa_fxN (noT_i hp) fx2 (by exact vsD_flat vs) hall
  -- tuple([.. for way, count in verses])
  refine ⟨_, rfl, a, rfl, ⟨xs, hs2⟩, fun L hL => lc_map walk_tup (fun i => .int ((rises vs).getD i 0)) hL (by rw [hl]; exact Nat.lt_of_le_of_lt hn (by decide)) (fun H3 e => sqt_ex e hs2) ?_ ?_⟩
  · rintro i x H3 H4 hi e ⟨rfl, hx⟩ Q Zf q
    obtain ⟨ve, t, hve, rfl, ht⟩ := vs_at hall2 hx
    refine ⟨t, _, rfl, sqt_ex e ht, rfl, _, _, rfl, _, _, rfl, rfl, rfl, ?_⟩
    refine iteT (B := Zf H4) ?_
    have er : (rises vs).getD i 0 = riseOf ve := by
      unfold rises
      rw [List.getD_eq_getElem?_getD, List.getElem?_map, hve]
      rfl
    rw [er] at q
    refine ⟨_, rfl, rfl, _, rfl, ?_⟩
    rw [d_str]
    have q2 := q H4 (ex_refl H4)
    unfold riseOf at q2
    cases hb : ve.1 with
    | true =>
      rw [hb, if_pos rfl] at q2
      exact iteT ⟨_, rfl, q2⟩
    | false =>
      rw [hb, if_neg Bool.false_ne_true] at q2
      exact iteF ⟨_, rfl, 1, _, rfl, rfl, q2⟩
  · intro H3 e3 hL3
    have e4 : (List.range xs.length).map (fun i => V.int ((rises vs).getD i 0)) = (rises vs).map V.int := by
      refine map_range_get (rises vs) V.int 0 ?_
      unfold rises
      rw [List.length_map]
      exact hl
    rw [e4] at hL3
    refine ⟨L, _, rfl, .inl ⟨SqL.of hL3, fun l hl3 => ?_⟩⟩
    have hp4 : (upd H3 l (.tup ((rises vs).map V.int))) p = some (.ins (He.ga K "Rhyme") dx (putF "own_left" (.int left) (putF "own_verses" (.ref a) []))) := ex_new hl3 _ _ (e3 _ _ hp2)
    refine ⟨_, rfl, p, _, dx, _, rfl, hp4, T.cl, T.nr, (by show 2 < 1000; decide), ?_⟩
    refine k _ _ ⟨dx, .ref a, l, upd_same, ?_, ?_⟩ fun b o hb nb => ?_
    · exact dp_fxN (noT_i hp4) fx_upd (vsD_flat vs) (dp_ex (ex_new hl3) (dp_ex e3 hv2))
    · exact sqt_fxN (noT_i hp4) fx_upd (SqT.of upd_same)
    · rw [upd_ne nb]
      exact ex_new hl3 _ _ (e3 _ _ (fx2 b o nb hb))

end Z
namespace Z
open PySem PySem.Spec PyProof.Rows L2
local macro_rules | `(tactic| walk_at "look") => `(tactic| first | assumption | exact upd_same | exact SqL.of (by assumption) | exact SqT.of (by assumption) | exact SqL.of upd_same | exact SqT.of upd_same)
local macro_rules | `(tactic| walk_at "at") => `(tactic| first | exact at0 | exact at1 | exact at2 | exact at3 | exact ix0 | exact ix1 | assumption | exact atI_nat (by rfl))
local macro_rules | `(tactic| walk_at "sd") => `(tactic| ((try dsimp only); first | assumption | omega | (unfold CMul; omega) | (unfold CDiv; omega) | (unfold CPow; decide) | decide))
local macro_rules | `(tactic| walk_at "st") => `(tactic| first
  | (refine ⟨_, rfl, ?_⟩)
  | (refine ⟨_, _, rfl, rfl, ?_⟩)
  | (refine ⟨rfl, ?_⟩)
  | (refine .inl ⟨_, rfl, ?_⟩)
  | (refine ⟨_, _, _, _, rfl, rfl, (by walk_at "look"), (by walk_at "at"), ?_⟩)
  | (refine ⟨_, _, rfl, .inl (by walk_at "look"), ?_⟩)
  | (refine And.intro (by walk_at "sd") ?_)
  | fail "no step")
local macro_rules | `(tactic| walk_at "go") => `(tactic| repeat' (walk_at "st"))
local macro_rules | `(tactic| walk_at "ans") => `(tactic| (intro Q q; (repeat' (walk_at "st")); exact q))

theorem init_2 {K : PySem.W.Frag} {E : XK} {D : Ends} {p dx : Addr} {s3 s4 : Option V} {tv : V} {vs : List Ve} {left : Int} {H : Hp} (T : RhC K) (hp : H p = some (.ins (He.ga K "Rhyme") dx [])) (hv : Dp K H tv (vsD vs)) (ok : RhOk vs left)
    (k : ∀ (σ' : L2.St) (H' : Hp), RhAt K H' p vs left → (∀ b o, H b = some o → b ≠ p → H' b = some o) → D.nx σ' H') : t_Rhymeu_initu_2 K E D [some (.ref p), some tv, some (.int left), s3, s4, none, none] H := by
  unfold t_Rhymeu_initu_2
  refine if_go false (fun Q q => ?_) (fun z => nomatch z) (fun _ => ?_)
  · refine ⟨_, rfl, ?_⟩
    unfold sp_is_between
    refine ⟨_, .int left, 1, 3, rfl, .int left, true, ?_, q⟩
    show V.bl (decide (1 ≤ left) && decide (left ≤ 3)) = _
    rw [decide_eq_true ok.lf.1, decide_eq_true ok.lf.2]
    rfl
  · exact init_3 T hp hv ok.l4 k
theorem init_1 {K : PySem.W.Frag} {E : XK} {D : Ends} {p dx : Addr} {s3 s4 : Option V} {tv : V} {vs : List Ve} {left : Int} {H : Hp} (T : RhC K) (hp : H p = some (.ins (He.ga K "Rhyme") dx [])) (hv : Dp K H tv (vsD vs)) (ok : RhOk vs left)
    (k : ∀ (σ' : L2.St) (H' : Hp), RhAt K H' p vs left → (∀ b o, H b = some o → b ≠ p → H' b = some o) → D.nx σ' H') : t_Rhymeu_initu_1 K E D [some (.ref p), some tv, some (.int left), s3, s4, none, none] H := by
  unfold t_Rhymeu_initu_1
  obtain ⟨a, xs, rfl, hs, hall⟩ := dp_tup (id hv)
  refine ⟨_, rfl, a, xs, rfl, hs, for_it walk_enumT (fun i σ H' => Ex H H' ∧ ∃ s3 s4, σ = [some (.ref p), some (.ref a), some (.int left), s3, s4, none, none]) ⟨ex_refl H, s3, s4, rfl⟩ (fun i σ H' _ h => sqt_ex h.1 hs) ?_ ?_⟩
  · rintro i x σ H1 H2 hi ⟨e, u3, u4, rfl⟩ ⟨t, y1, y2, rfl, ht, rfl, h1, h2⟩
    cases h1
    have e2 : Ex H (upd H1 t (.tup [.int (i : Nat), y2])) := ex_trans e (ex_new ht)
    obtain ⟨d, hd1, hd2⟩ := dpa_get' hall h2
    refine ⟨t, _, rfl, SqT.of upd_same, rfl, _, _, rfl, _, _, rfl, rfl, ?_⟩
    unfold t_Rhymeu_initu_1a_0
    rw [List.getElem?_map] at hd1
    cases q : vs[i]? with
    | none =>
      rw [q] at hd1
      cases hd1
    | some v =>
      rw [q] at hd1
      have hm : v ∈ vs := List.mem_of_getElem? q
      have ed : vD v = d := Option.some.inj hd1
      subst ed
      refine if_goH false (fun Q q => ?_) (fun _ _ z => nomatch z) (fun H' e' _ => ?_)
      · refine ⟨_, rfl, ?_⟩
        unfold sp_is_verse
        refine ⟨y2, _, rfl, dp_ex e2 hd2, fun H' e' => ⟨true, ?_, q H' e'⟩⟩
        rw [isVerse_vD (ok.cnt v hm)]
      · exact ⟨ex_trans e2 e', _, _, rfl⟩
  · rintro σ H1 ⟨e, u3, u4, rfl⟩
    refine init_2 T (e _ _ hp) (dp_ex e hv) ok fun σ' H' r f => k σ' H' r fun b o hb nb => f b o (e b o hb) nb
theorem pure_Rhymeu_initu {K : PySem.W.Frag} (T : RhC K) (ws : List V) (H : Hp) (Q : VK) (E : XK) (h : sp_Rhymeu_initu K ws H Q E) :
    t_Rhymeu_initu_0 K E { nx := fun _ H' => Q .non H', rt := Q } (start ["self", "verses", "left", "index", "verse", "way", "count"] ws) H := by
  unfold sp_Rhymeu_initu at h
  obtain ⟨p, dx, v, vs, left, rfl, hp, hv, ok, k⟩ := h
  show t_Rhymeu_initu_0 K E _ [some (.ref p), some v, some (.int left), none, none, none, none] H
  obtain ⟨a, xs, rfl, hs, hall⟩ := dp_tup (id hv)
  have hl : xs.length = vs.length := by
    have := dpa_len hall
    rw [List.length_map] at this
    exact this
  unfold t_Rhymeu_initu_0
  refine if_go false (fun Q q => or_go false false (fun Q q => ⟨_, rfl, isi_go (Q := fun x H' => ∃ c, x = .bl c ∧ Q (!c) H') hv (show kitB "tuple" "tuple" = some true by decide +kernel) ⟨true, rfl, q⟩⟩) (fun _ Q q => ?_) q) (fun z => nomatch z) (fun _ => ?_)
  · refine ⟨_, rfl, a, xs, rfl, .inr hs, 1, _, rfl, rfl, _, rfl, ?_⟩
    have h1 := ok.l1
    have h4 := ok.l4
    refine iteT' (decide_eq_true (by omega)) ⟨_, _, rfl, rfl, _, rfl, ?_⟩
    rw [decide_eq_true (show (xs.length : Int) ≤ 4 by omega)]
    exact q
  · exact init_1 T hp hv ok fun σ' H' r f => k H' r f

/-- a rhyme of data (verses, left) -/
def tD (vs : List Ve) (left : Int) : PyData := .tuple [vsD vs, .int left]
theorem tD_flat (vs : List Ve) (left : Int) : flatD (tD vs left) = true := by
  show (flatD (vsD vs) && true) = true
  rw [vsD_flat]
  rfl
/-- (verses, left) taken apart -/
theorem tD_at {K : PySem.W.Frag} {H : Hp} {x : V} {vs : List Ve} {left : Int} (h : Dp K H x (tD vs left)) : ∃ a v, x = .ref a ∧ SqT K H a [v, .int left] ∧ Dp K H v (vsD vs) := by
  obtain ⟨a, xs, rfl, hs, hall⟩ := dp_tup h
  cases hall with
  | cons e0 r =>
    cases r with
    | cons e1 r =>
      cases r
      rw [dp_int e1] at hs
      exact ⟨a, _, rfl, hs, e0⟩
@[irreducible] def sp_law_made (K : PySem.W.Frag) : Sp := fun ws H Q _ => ∃ (x : V) (vs : List Ve) (left : Int), ws = [x] ∧ Dp K H x (tD vs left) ∧ RhOk vs left ∧
  ∀ (p : Addr) (H' : Hp), H p = none → Ex H H' → RhAt K H' p vs left → Q (.ref p) H'
def t_law_made_0 (K : PySem.W.Frag) (E : XK) : TS := (tRet (tMake (He.ga K "Rhyme") (sp_Rhymeu_initu K) [] E0 (tCons (tOp (rIxT K) (tVar 0) (tC (.int 0))) (tCons (tOp (rIxT K) (tVar 0) (tC (.int 1))) tNil))))

theorem pure_law_made {K : PySem.W.Frag} (ws : List V) (H : Hp) (Q : VK) (E : XK) (h : sp_law_made K ws H Q E) : t_law_made_0 K E { nx := fun _ H' => Q .non H', rt := Q } (start ["_law_t"] ws) H := by
  unfold sp_law_made at h
  obtain ⟨x, vs, left, rfl, hx, ok, k⟩ := h
  show t_law_made_0 K E _ [some x] H
  obtain ⟨a, v, rfl, hs, hv⟩ := tD_at hx
  refine ⟨_, rfl, a, _, 0, _, rfl, rfl, hs, at0, _, rfl, a, _, 1, _, rfl, rfl, hs, at1, fun p dp np nd ne => ?_⟩
  have e0 : Ex H (upd (upd H dp (.own p)) p (.ins (He.ga K "Rhyme") dp [])) := fun b o e => by
    rw [upd_ne (ne_of_none e np), upd_ne (ne_of_none e nd)]
    exact e
  unfold sp_Rhymeu_initu
  refine ⟨p, dp, v, vs, left, rfl, upd_same, dp_ex e0 hv, ok, fun H' r f => ⟨rfl, k p H' np (fun b o e => f b o (e0 b o e) (ne_of_none e np)) r⟩⟩

end Z
namespace Z
open PySem PySem.Spec PyProof.Rows L2
section
variable {X : Cx} {n j : Nat} {C : Addr} {sp : Sp} {E : XK}
/-- a == b, both instances of the class at C, by its own __eq__ -/
def rEqI (C : Addr) (sp : Sp) (E : XK) : R2 := fun x y H Q => ∃ a b dx dy fs gs, x = .ref a ∧ y = .ref b ∧ H a = some (.ins C dx fs) ∧ H b = some (.ins C dy gs) ∧ sp [.ref a, .ref b] H Q E
theorem op_eqI (c : Cm X.prog X.w X.K X.mg X.base n C "__eq__" sp) (hr : Room j X.A) (hk : n ≤ j) (hx : Passes (L2.CX X.prog X.w) X E) : OpR X (compareOp .Eq) (rEqI C sp E) := by
  obtain ⟨f, fd, ps, hc, hm, F, hb⟩ := c.ex
  intro pins s σ H x y v u Q I rx ry ⟨a, b, dx, dy, fs, gs, ex, ey, ha, hb2, q⟩
  subst ex ey
  cases rx
  cases ry
  obtain ⟨mA, J, _⟩ := ins_get I.hok ha
  obtain ⟨mB, J', _⟩ := ins_get I.hok hb2
  obtain ⟨od, J, _⟩ := J.look
  obtain ⟨od', J', _⟩ := J'.look
  obtain ⟨m, hF⟩ := I.fr
  refine PySem.W.cmp_K (op := .Eq) (tb := .ref C) hr.units0 hF I.ok.mod.kin J J'.type (by simp [PySem.W.notFirst]) hm.1 hm.2 ?_
  have rv : Vals [V.ref a, V.ref b] [Value.ref a, Value.ref b] := .cons rfl (.cons rfl .nil)
  refine wpAny_mono (run_fn (dvs := []) F (hr.mono hk) hb .nil hx I rv (by rw [List.append_nil]; exact q)) (fun v s1 hv => ?_) fun _ _ z => z
  obtain ⟨z, H1, I1, rz, qz⟩ := id hv
  cases z with
  | non => cases rz; exact hv
  | bl _ => cases rz; exact hv
  | int _ => obtain ⟨t, rfl⟩ := rz; exact hv
  | str _ => obtain ⟨t, rfl⟩ := rz; exact hv
  | byt _ => obtain ⟨t, rfl⟩ := rz; exact hv
  | flt _ => obtain ⟨t, rfl⟩ := rz; exact hv
  | ref _ => cases rz; exact hv
  | ty _ => cases rz; exact hv
end
end Z
/-! A def's, a method's, a maker's promise, from what the top leaves of it. -/
namespace Z
open PySem PySem.Spec PyProof.Rows L2
def inClass : Stmt → Nat → Stmt
  | .ClassDef _ _ _ body _ _ _ _ _ _ _, j => body.getD j (.Pass ⟨0, 0, 0, 0⟩)
  | s, _ => s
section
variable {P : Program} {w : World} {K : PySem.W.Frag} {mg : Str → Option Value} {base : Heap} {N : List Str} {qual : Str} {f C : Addr}
theorem ck_of {x : Str} {st : Stmt} {ps : List Str} {k : Nat} {sp : Sp} (M : Mk K C f) (F : ∃ fd, FnT K "__init__" qual st [] f fd) (hm : mg x = some (.ref C)) (S : FnScope N ps (defScope st)) (len : ∀ vs H Q E, sp vs H Q E → vs.length = ps.length)
    (hb : ∀ (kV doc pm : Value) (an : Option Addr) (cdv ct : Value) (us : List Value), us.length = ps.length → bindArgs (PySem.W.fnOf "__init__" qual (defArgs st) (defBody st) (defScope st) .none kV doc pm an cdv ct) ⟨us, []⟩ = pure (ps.zip us))
    (body : ∀ (cdv : Value) (A : Around) (outer : List Env) (s : Shared) (H : Hp) (vs : List V) (Q : VK) (E : XK), Room k (A.deeper (envOfC qual (defScope st) s.heap.objs.size f cdv)) → sp vs H Q E →
      ∃ t, PSs (cxOf (L2.CX P w) P w K mg base N qual (defScope st) f cdv A outer s H E) (defBody st) t ∧ t { nx := fun _ H' => Q .non H', rt := Q } (start N vs) H) : Ck P w K mg base (k + 1) x C sp := by
  obtain ⟨fd, F⟩ := F
  exact ⟨f, fd, ps, M, F.ok S len body, hm, F.bindsN hb⟩
/-- a def with defaults: n values are given, the defaults from the j-th on -/
theorem cld_of {x : Str} {st : Stmt} {ps : List Str} {k : Nat} {sp : Sp} {dvs : List V} (n j : Nat) (F : ∃ fd, FnT K x x st dvs f fd) (hm : mg x = some (.ref f)) (S : FnScope N ps (defScope st)) (len : ∀ vs H Q E, sp vs H Q E → vs.length = ps.length)
    (hd : dvs ≠ []) (hn : n + (dvs.length - j) = ps.length)
    (hb : ∀ (T : Addr) (kV doc pm : Value) (an : Option Addr) (cdv ct : Value) (us its : List Value), us.length = n → its.length = dvs.length →
      ∃ k, bindArgs (PySem.W.fnOf x x (defArgs st) (defBody st) (defScope st) (.ref T) kV doc pm an cdv ct) ⟨us, []⟩ = seqItems? (.ref T) >>= k ∧ k (some its.toArray) = pure (ps.zip (us ++ its.drop j)))
    (body : ∀ (cdv : Value) (A : Around) (outer : List Env) (s : Shared) (H : Hp) (vs : List V) (Q : VK) (E : XK), Room k (A.deeper (envOfC x (defScope st) s.heap.objs.size f cdv)) → sp vs H Q E →
      ∃ t, PSs (cxOf (L2.CX P w) P w K mg base N x (defScope st) f cdv A outer s H E) (defBody st) t ∧ t { nx := fun _ H' => Q .non H', rt := Q } (start N vs) H) : Cl P w K mg base (k + 1) x sp (dvs.drop j) := by
  obtain ⟨fd, F⟩ := F
  obtain ⟨ds, hv, b⟩ := F.binds1 n j hd hn hb
  exact ⟨f, fd, ps, ds, F.ok S len body, hm, F.kp, b, hv⟩
/-- a promise that nobody asks for -/
theorem cl_none {x : Str} {st : Stmt} {ps : List Str} {k : Nat} {sp : Sp} (F : ∃ fd, FnT K x x st [] f fd) (hm : mg x = some (.ref f)) (no : ∀ vs H Q E, ¬ sp vs H Q E)
    (hb : ∀ (kV doc pm : Value) (an : Option Addr) (cdv ct : Value) (us : List Value), us.length = ps.length → bindArgs (PySem.W.fnOf x x (defArgs st) (defBody st) (defScope st) .none kV doc pm an cdv ct) ⟨us, []⟩ = pure (ps.zip us)) : Cl P w K mg base k x sp [] := by
  obtain ⟨fd, F⟩ := F
  exact ⟨f, fd, ps, [], ⟨fun vs H Q E h => absurd h (no vs H Q E), fun A outer s H args us vs Q E _ _ _ _ h => absurd h (no vs H Q E)⟩, hm, F.kp, F.bindsN hb, .nil⟩
theorem cm_of {m : Str} {st : Stmt} {ps : List Str} {k : Nat} {sp : Sp} (c : Cls K C) (M : Meth K C m f) (F : ∃ fd, FnT K m qual st [] f fd) (S : FnScope N ps (defScope st)) (len : ∀ vs H Q E, sp vs H Q E → vs.length = ps.length)
    (hb : ∀ (kV doc pm : Value) (an : Option Addr) (cdv ct : Value) (us : List Value), us.length = ps.length → bindArgs (PySem.W.fnOf m qual (defArgs st) (defBody st) (defScope st) .none kV doc pm an cdv ct) ⟨us, []⟩ = pure (ps.zip us))
    (body : ∀ (cdv : Value) (A : Around) (outer : List Env) (s : Shared) (H : Hp) (vs : List V) (Q : VK) (E : XK), Room k (A.deeper (envOfC qual (defScope st) s.heap.objs.size f cdv)) → sp vs H Q E →
      ∃ t, PSs (cxOf (L2.CX P w) P w K mg base N qual (defScope st) f cdv A outer s H E) (defBody st) t ∧ t { nx := fun _ H' => Q .non H', rt := Q } (start N vs) H) : Cm P w K mg base (k + 1) C m sp := by
  obtain ⟨fd, F⟩ := F
  exact ⟨f, fd, ps, c, M, F.ok S len body, F.bindsN hb⟩
end
/-- what isinstance asks of an own class, by its Bools -/
def insB (K : PySem.W.Frag) (x : Str) : Bool :=
  (He.Fa.cls x).ok K && (He.eqO (PySem.W.findIn K (.ref (He.ga K x)) "__class__") (some (some (.builtin "object.__class__"))) && (He.eqO (PySem.W.specialIn K (.builtin "object.__class__") "__get__") (some (some (.builtin "getset_descriptor.__get__"))) &&
  (decide (PySem.W.takesIn K (.builtin "object.__class__") = some true) && (decide (PySem.W.mroIn K (He.ga K x) (.type "object") = some true) && decide (PySem.W.kitOne K (.ref (He.ga K x)) (.ref (He.ga K x)) = some true)))))
theorem insB_ok {K : PySem.W.Frag} {x : Str} (h : insB K x = true) : C8.InsC K (He.ga K x) := by
  unfold insB at h
  obtain ⟨h1, h⟩ := He.ba h
  obtain ⟨h2, h⟩ := He.ba h
  obtain ⟨h3, h⟩ := He.ba h
  obtain ⟨h4, h⟩ := He.ba h
  obtain ⟨h5, h6⟩ := He.ba h
  exact ⟨He.cls_ok h1, He.eqO_ok h2, He.eqO_ok h3, of_decide_eq_true h4, of_decide_eq_true h5, of_decide_eq_true h6⟩
/-- the walk's end, where what is let out leans on the world -/
theorem walk_ofW {ll : PySem.W.OpenLaw} {mm lv : Nat} {qv : Program} {ls : List Str} {XP : (Str → Option Value) → Heap → Prop} {YP : World → Heap → Prop} {dr : DefRec} {CW : World → CXT} {arg : Str}
    (hm : ll.most = some mm) (hz : mm ≤ sizeLine) (h0 : dr.params.defaults = []) (rm : Room lv callerA)
    (FF : ∀ (w : World) (mg : Str → Option Value) (fL : Addr) (hp : Heap), YP w hp → hp.Ns mainGlobals mg → mg dr.name = some (.ref fL) →
      ∃ (K : PySem.W.Frag) (fd : FuncData) (sp : Sp), K.In hp ∧ (∀ (s : Shared) (v : Value), BindsTo s fd ⟨[v], []⟩ [(arg, v)]) ∧
        (∀ (H : Hp) (a : Addr) (zs : List Int), zs.length ≤ mm → SqL K H a (zs.map V.int) → sp [.ref a] H (fun v _ => v = .bl true) fun _ _ _ => False) ∧
        ∀ bs : Heap, K.In bs → bs.Ns mainGlobals mg → FnOk ll.prog w K mg bs (CW w) lv fL fd [arg] sp)
    (no : ∀ (w : World) (H : Hp) (s : Shared) (e : Value) (s' : Shared), CW w [] H s (fun _ _ _ => False) e s' → False) :
    PySem.W.WalkO qv ls XP YP ll.row.toRowW dr [] (fun f vs => PySem.call f vs) := by
  refine Att.attach_call hm h0 fun w st su mg mb fL oo pm cd doc a vs zs GG YY ho hd hcd hmg hobj hints hlen hg => ?_
  obtain ⟨K, fd, sp, KX, hb, hsp, hF⟩ := FF w mg fL _ YY GG.T.g hmg
  refine law_call KX GG.T.g GG.T.b GG.T.builtins GG.T.nolimit hg hobj hints ?_ rm hF hb (fun H _ hS => hsp H a zs hlen hS) fun H e s' => no w H su e s'
  exact Nat.le_trans hlen hz
theorem noout {P : Program} {w : World} {H : Hp} {s s' : Shared} {e : Value} (z : L2.CX P w [] H s (fun _ _ _ => False) e s') : False := by
  obtain ⟨_, _, _, _, _, _, _, _, _, _, _, _, h⟩ := z
  exact h
end Z
/-! An own error made without arguments; raised; caught. -/
namespace Z
open PySem PySem.Spec PyProof.Rows L2
/-- what the top leaves of an own error without own __init__ -/
structure XcK (K : PySem.W.Frag) (mg : Str → Option Value) (x : Str) : Prop where
  m : PySem.W.excIn K (He.ga K x) He.veBase "ValueError.__new__" = true
  kp : PySem.W.keepIn K (.ref (He.ga K x)) = true
  sb : PySem.W.subIn K (.ref (He.ga K x)) (.type "BaseException") = some true
  ty : PySem.W.typeIn K (.ref (He.ga K x)) = some (.type "type")
  g : mg x = some (.ref (He.ga K x))
section
variable {X : Cx}
theorem pmk_own0 {x : Str} {p pos : Pos} (T : XcK X.K X.mg x) (hg : Gl X x) (hdb : (x == ("__debug__" : Str)) = false := by decide) :
    PMk X (.Call (.Name x p) [] [] pos) (fun _ H Q => Q (.ref (He.ga X.K x)) none H) := by
  intro pins s σ H Q I h
  refine wpAny_Call_Name_kw (ld_glob I hg T.g ?_ hdb)
  refine PySem.W.callWith_K0 I.kIn T.kp ?_
  show wpAny _ _ (call (.ref (He.ga X.K x)) []) _ _ _
  obtain ⟨bm, N, nm, qn, bs, hdct, sn, sub, ab, col, dd, k0, k1, k2, k3, k5, mN, hC, hN, hni, T2⟩ := exc_obj I.kIn T.m
  refine wpAny_call_exc_subT F.excBase_ValueError T2 hC hN hni (fun h' e hm => ?_) (Nat.zero_le _)
  exact mk_of I hm (raises_own T.sb T.ty) h (I.hok.gone hm.new)
end
/-- raise X() -/
def tRaise0 (E : XK) (C : Addr) : TS := fun _ σ H => E (.ref C) none H
/-- try: .. except X: .. -/
def tTry (K : PySem.W.Frag) (tb : WX → TS) (E : XK) (l : List (Value × (Addr → Value → Option Addr → TS))) : TS := fun D σ H => tb (wMany K (fun cls d _ H' => E cls d H') D l) D σ H
/-- an error of its own is caught by the i-th clause -/
theorem many_0 {K : PySem.W.Frag} {Wo : WX} {D : Ends} {c : Value} {ts : Addr → Value → Option Addr → TS} {r : List (Value × (Addr → Value → Option Addr → TS))} {d : Option Addr} {σ : L2.St} {H : Hp} (e : PySem.W.exmOne K c c = some true) (k : ∀ a, H a = none → ts a c d D σ H) : wMany K Wo D ((c, ts) :: r) c d σ H :=
  ⟨true, e, fun _ => k, fun z => nomatch z⟩
theorem many_1 {K : PySem.W.Frag} {Wo : WX} {D : Ends} {c c' : Value} {ts : Addr → Value → Option Addr → TS} {r : List (Value × (Addr → Value → Option Addr → TS))} {d : Option Addr} {σ : L2.St} {H : Hp} (e : PySem.W.exmOne K c c' = some false) (k : wMany K Wo D r c d σ H) : wMany K Wo D ((c', ts) :: r) c d σ H :=
  ⟨false, e, fun z => (nomatch z), fun _ => k⟩
end Z
/-! An own error's `__init__` that calls super().__init__("..") and keeps one field. -/
namespace Z
open PySem PySem.Spec PyProof.Rows L2
/-- what the top leaves of such a class -/
structure SupC (K : PySem.W.Frag) (C fI cc : Addr) (fld : Str) : Prop where
  x : OexC K C
  init : PySem.W.findIn K (.ref C) "__init__" = some (some (.ref fI))
  fn : PySem.W.typeIn K (.ref fI) = some (.type "function")
  cell : ∃ cl cld csl, K.lookup cc = some (⟨cl, cld, .cell (some (.ref C)), csl⟩ : Obj)
  mro : PySem.W.mroIn K C (.ref C) = some true
  any : PySem.W.nsIn K cStatics "thirdparty.any" = some none
  ve : PySem.W.subIn K (.ref C) (.type "ValueError") = some true
  sup : PySem.W.ks_superIn K C C "__init__" = some (some (.builtin "ValueError.__init__"))
  no : PySem.W.findIn K (.ref C) fld = some none
/-- its promise -/
def spSup (C : Addr) (fld : Str) : Sp := fun vs H Q _ => ∃ (a : Addr) (y : V), vs = [.ref a, y] ∧ H a = some (exo a C none) ∧ ∀ dx, H dx = none → dx ≠ a → Q .non (upd (upd H dx (exd dx [(fld, y)])) a (exo a C (some dx)))
/-- the call's tree: its places lie on one line -/
abbrev SupE (z : Str) (j : Nat) (p0 p1 p2 p3 p4 : Pos) : Prop := ∀ env : Env, ∃ pl : Sem Bool, eval (.Call (.Attribute (.Call (.Name "super" p0) [] [] p1) "__init__" p2) [.Constant (.str z) j p3] [] p4) env = (do
      let ov ← attributeBase (.Call (.Name "super" p0) [] [] p1) "__init__" env (eval (.Call (.Name "super" p0) [] [] p1) env)
      standAt p2.atName
      let (f, first) ← holding [ov] (getMethod ov "__init__" pl)
      callWith p4 f first (backTo p4 (starEach [.Constant (.str z) j p3] env)) [])
/-- super().__init__("..") -/
theorem sup_st {X : Cx} {pins : List (Addr × Obj)} {σ : L2.St} {H : Hp} {s : Shared} {body : List Stmt} {a C fI cc cda : Addr} {fld z file : Str} {fd : FuncData} {ar : Arg} {oc : Value} {od : Option Addr} {osl : Array (Option Value)} {p0 p1 p2 p3 p4 p5 : Pos} {j : Nat} {tf : Tok} (he : SupE z j p0 p1 p2 p3 p4) (T : SupC X.K C fI cc fld) (I : L2.Inv X pins σ H s) (ea : H a = some (exo a C none))
    (lk : X.K.lookup fI = some (⟨oc, od, .func fd, osl⟩ : Obj)) (hpa : (fd.params.posonlyargs ++ fd.params.args).head? = some ar) (har : ar.arg = "self")
    (hcode : ∃ ccl cdd vs ccs, X.K.lookup cda = some (⟨ccl, cdd, .fields vs, ccs⟩ : Obj) ∧ vs[2]? = some (.str file tf)) (hfile : ((X.prog.main.file : Str) == file) = true) (htop : (X.prog.main.scope.names.lookup ("super" : Str)).isSome = false) (hmg : X.mg ("super" : Str) = none)
    (hfu : X.env.func = some fI) (hco : X.env.code = .ref cda) (hce : X.env.cells.lookup ("__class__" : Str) = some cc) (hks : X.env.scope.names.lookup ("super" : Str) = some .globalImplicit) (hkc : X.env.scope.names.lookup ("__class__" : Str) = some .free)
    (hsl : X.env.scope.names.lookup ("self" : Str) = some .local) (hN : X.N[0]? = some ("self" : Str)) (hσ : σ[0]? = some (some (.ref a))) :
    _root_.PySem.wpAt (model X.prog X.w) X.A (.func body X.env) (exec (.Expr (.Call (.Attribute (.Call (.Name "super" p0) [] [] p1) "__init__" p2) [.Constant (.str z) j p3] [] p4) p5) X.env) (fun fl s' => fl = .next ∧ L2.Inv X pins σ H s') X.xe s := by
  obtain ⟨hp, g, d, t, os⟩ := s
  obtain ⟨nm, q, N, bs, bm, sn, sub, ab, col, dd, k0, k1, k2, k3, k5, hC, hbm⟩ := T.x.cls
  obtain ⟨cl, cld, csl, hcell⟩ := T.cell
  obtain ⟨ccl, cdd, vsC, ccs, hcode, hvs⟩ := hcode
  obtain ⟨t1, ho⟩ := exo_at I.hok ea
  have KX : X.K.In hp := I.kIn
  obtain ⟨mL, hnL, hlL⟩ := I.loc
  obtain ⟨u0, ru, lu⟩ := hlL 0 "self" (.ref a) hN hσ (.inl hsl)
  obtain rfl : u0 = Value.ref a := ru
  have hm0 : mL "self" = some (.ref a) := by
    rcases lu with ⟨_, h⟩ | ⟨hk, _⟩
    · exact h
    · rcases hk with hk | hk <;> · have := hk.symm.trans hsl; cases this
  obtain ⟨mb, hb1, hb2⟩ := I.mod.blt
  have hcl : PySem.W.clsIn X.K C = some { name := nm, bases := bs, mro := .ref C :: bm, ns := N, qualname := q, hasDict := true, slotNames := sn, subclasses := sub, abstract := ab, collection := col, hasDel := false } := by unfold PySem.W.clsIn; rw [hC] <;> rfl
  refine ks_wpAt_Expr_any ?_ I.quiet
  obtain ⟨pl, he⟩ := he X.env
  refine ks_wpAt_MethodCall ?_ he
  refine ks_wpAt_super_base (f := fI) (cc := cda) hks hkc rfl hfu (KX _ _ lk) rfl hpa hco (KX _ _ hcode) rfl hvs hfile htop ?_
  refine PySem.W.ks_loadName_global I.ok.kind hks (Calls.loadGlobal_builtin (by rw [I.ok.glob]; exact I.mod.glob.keeps I.bk) hmg (by rw [I.ok.blt]; exact hb1.keeps I.bk) ((hb2 "super" (by decide)).trans PyProof.Rows.Boot.«super») ⟨rfl, ?_⟩)
  refine wpAny_loadName_free I.ok.kind hkc hce ⟨_, KX _ _ hcell, rfl⟩ ?_
  rw [har]
  refine wpAny_loadName_local I.ok.kind hsl hnL hm0 ?_
  refine ks_wpAny_isType_cls (KX _ _ hC) rfl ⟨rfl, ?_⟩
  refine ks_wpAny_call_super (KX _ _ hC) rfl ho rfl (fun c e => nomatch e) (PySem.W.looks_mroIn KX T.mro) (fun h1 e1 k1' => ?_)
  have I1 : L2.Inv X pins σ H ⟨h1, g, d, t, os⟩ := I.kept (t' := t) k1'
  have KX1 : X.K.In h1 := I1.kIn
  have ho1 := k1' _ _ ho
  have J1 : PySem.W.InstAt h1 a _ C none := ⟨ho1, rfl, rfl, trivial⟩
  have hne : a ≠ C := fun z => by
    have e2 := KX1 _ _ hC
    rw [← z, ho1] at e2
    cases e2
  refine PySem.W.kxs_getMethod PySem.W.kxs_ValueError e1 (PySem.W.looks_opaque KX1 T.any) (fun A Q E s k q => wpAny_bind ((PySem.W.looks_clsIn KX1 hcl) A _ E s k (wpAny_pure q))) rfl KX1 (by have := T.sup; unfold PySem.W.ks_superIn at this; rw [hcl] at this; exact this) (J1.type.andThen (PySem.W.looks_subIn KX1 T.ve)) hne rfl ?_
  have k2' : ∀ b o, h1.get? b = some o → (h1.push (PySem.W.kxs_mw "ValueError.__init__" a)).get? b = some o := fun b o e => Heap.get?_push_of_some _ e
  have I2 : L2.Inv X pins σ H ⟨h1.push (PySem.W.kxs_mw "ValueError.__init__" a), g, d, t + 1, os⟩ := I1.kept (t' := t + 1) k2'
  have hu : (h1.push (PySem.W.kxs_mw "ValueError.__init__" a)).get? h1.objs.size = some (PySem.W.kxs_mw "ValueError.__init__" a) := Heap.get?_push_size _ rfl
  refine PySem.W.kxs_callWith (i := "ValueError.__init__") (x := a) rfl ?_
  refine Calls.evalArgs_plain (Calls.spliced_cons (Calls.Constant_str (k := j) (pos := p3) (Calls.spliced_nil ⟨hu, ?_⟩)))
  have ho2 : (h1.push (PySem.W.kxs_mw "ValueError.__init__" a)).get? a = some (PySem.W.excObj C t1 none .none) := k2' _ _ ho1
  refine wpAny_call (codeAny_of_tree ?_)
  show wpAny _ X.A.in1 (callAny (.ref h1.objs.size) ⟨[.str z (t + 1)], []⟩) _ _ _
  simp only [callAny]
  refine wpAny_bind (wpAny_load hu ?_)
  simp only [PySem.W.kxs_mw, show (Value.type "method-wrapper" == Value.type "method" || Value.type "method-wrapper" == Value.type "builtin_function_or_method" || Value.type "method-wrapper" == Value.type "method-wrapper") = true by decide, if_true]
  refine PySem.W.KFB.if_so (by decide) ?_
  refine wpAny_bind (PySem.W.check_bound_init F.excBase_ValueError.toExcCallFacts (k2' _ _ (KX1 _ _ hC)) ho2 rfl ?_)
  refine wpAny_bind (wpAny_pure (wpAny_pure ?_))
  refine ⟨plainId_quiet F.excBase_ValueError.init.plain _, codeAny_builtin F.excBase_ValueError.initEntry ?_⟩
  refine PySem.W.exc_init_tree (cls := .ref C) (t0 := t1) (dv := none) (c2 := .none) (c3 := .none) (b4 := .bool false) ho2 (by simp [sizeLine_eq]) fun h3 k3 hx _ => ?_
  have I3 := I2.write (t' := t + 1 + 1) (x := a) (e := a) (o := exo a C none) (by rw [ea]; exact True.intro) (.inl rfl) k3 ⟨_, hx⟩ (exo_ok hx)
  have eu : upd H a (exo a C none) = H := by
    funext b
    by_cases hb : b = a
    · rw [hb, upd_same, ea]
    · rw [upd_ne hb]
  rw [eu] at I3
  exact ⟨True.intro, I3⟩
section
variable {P : Program} {w : World} {K : PySem.W.Frag} {mg : Str → Option Value} {base : Heap} {CX : CXT} {C fI cc cda : Addr} {fld par qual z : Str} {k : Nat} {params : Arguments} {body : List Stmt} {scope : Scope} {kV doc pm oc ct : Value} {od an : Option Addr} {osl : Array (Option Value)} {p0 p1 p2 p3 p4 p5 q1 q2 q3 q4 : Pos} {j : Nat} {file : Str} {tf : Tok}
theorem sup_ok (he : SupE z j p0 p1 p2 p3 p4) (T : SupC K C fI cc fld) (lk : K.lookup fI = some (⟨oc, od, .func (PySem.W.fnX "__init__" qual params body scope [("__class__", cc)] .none kV doc pm an (.ref cda) ct), osl⟩ : Obj)) (hcd : PySem.W.codeIn K (.ref cda) qual = true)
    (hcode : ∃ ccl cdd vs ccs, K.lookup cda = some (⟨ccl, cdd, .fields vs, ccs⟩ : Obj) ∧ vs[2]? = some (.str file tf)) (hfile : ((P.main.file : Str) == file) = true) (htop : (P.main.scope.names.lookup ("super" : Str)).isSome = false) (hmg : mg ("super" : Str) = none)
    (S : NdefX.NScope ["self", par, "__class__"] ["self", par] ["__class__"] scope) (hsc : scope.names.lookup ("super" : Str) = some .globalImplicit) (hpar : (params.posonlyargs ++ params.args).head?.map (·.arg) = some "self")
    (hbody : body = [.Expr (.Call (.Attribute (.Call (.Name "super" p0) [] [] p1) "__init__" p2) [.Constant (.str z) j p3] [] p4) p5, .Assign [.Attribute (.Name "self" q1) fld q2] (.Name par q3) q4])
    (hd1 : (par == ("__debug__" : Str)) = false) (hd2 : (par == ("__classdict__" : Str)) = false) :
    FnOk P w K mg base CX (k + 1) fI (PySem.W.fnX "__init__" qual params body scope [("__class__", cc)] .none kV doc pm an (.ref cda) ct) ["self", par] (spSup C fld) := by
  refine ⟨fun vs H Q E ⟨a, y, e, _⟩ => by rw [e]; rfl, fun A outer s H args us vs Q E hr e0 hb r hsp => ?_⟩
  obtain ⟨a, y, rfl, ea, hq⟩ := hsp
  have KX : K.In s.heap := e0.mod.kin.keeps fun b o e => (e0.bs b o e).1
  have lim : s.heap.NoLimit := e0.mod.nolimit.keeps fun b o e => (e0.bs b o e).1
  obtain ⟨cl, cld, csl, hcell⟩ := T.cell
  obtain ⟨ccl, cdd, vsC, ccs, hcode, hvs⟩ := hcode
  refine ks_codeAny_call_defAt (fd := PySem.W.fnX "__init__" qual params body scope [("__class__", cc)] .none kV doc pm an (.ref cda) ct) (body := body) (binds := List.zip (["self", par] : List Str) us) hr.depth (KX _ _ lk) rfl lim (PySem.W.codeRec_of KX hcd) rfl hb S.nocell (fun y hy => S.par y.1 (List.of_mem_zip hy).1) (fun h₁ hns kp => ?_) S.co S.gen S.kind
  have CA : NdefX.CellsAt [("__class__", cc)] ["__class__"] [none] s.heap H := by
    have hc : ∀ y c, List.lookup y [(("__class__" : Str), cc)] = some c → y = "__class__" ∧ c = cc := fun y c e => by
      have := PySem.mem_of_lookup e
      simp only [List.mem_singleton, Prod.mk.injEq] at this
      exact this
    refine ⟨rfl, fun y c e => ?_, fun x y c e1 e2 => (hc x c e1).1.trans (hc y c e2).1.symm, fun i y e => ?_⟩
    · obtain ⟨_, rfl⟩ := hc y c e
      refine ⟨?_, some (.ref C), _, KX _ _ hcell, rfl⟩
      exact (e0.bs _ _ (e0.mod.kin _ _ hcell)).2
    · match i, e with
      | 0, e =>
        cases Option.some.inj e
        refine ⟨cc, rfl, fun v e2 => ?_⟩
        cases Option.some.inj e2
      | i + 1, e =>
        simp at e
  have I : L2.Inv (NdefX.ncx CX P w K mg base ["self", par, "__class__"] ⟨"__init__", qual, params, body, scope, [("__class__", cc)], cda⟩ fI A outer s H E) [] (NdefX.startF ["self", par, "__class__"] [.ref a, y] [none]) H { s with heap := h₁, toks := s.toks + (List.zip (["self", par] : List Str) us).length } :=
    NdefX.inv_startN (F := ⟨"__init__", qual, params, body, scope, [("__class__", cc)], cda⟩) S hr.hd e0 rfl r CA hns kp
  obtain ⟨ar, hpa, har⟩ : ∃ ar, (params.posonlyargs ++ params.args).head? = some ar ∧ ar.arg = "self" := by
    cases e : (params.posonlyargs ++ params.args).head? with
    | none => rw [e] at hpar; cases hpar
    | some ar =>
      rw [e] at hpar
      exact ⟨ar, rfl, Option.some.inj hpar⟩
  subst hbody
  have h1 := sup_st (X := NdefX.ncx CX P w K mg base ["self", par, "__class__"] ⟨"__init__", qual, params, [.Expr (.Call (.Attribute (.Call (.Name "super" p0) [] [] p1) "__init__" p2) [.Constant (.str z) j p3] [] p4) p5, .Assign [.Attribute (.Name "self" q1) fld q2] (.Name par q3) q4], scope, [("__class__", cc)], cda⟩ fI A outer s H E) (body := [.Expr (.Call (.Attribute (.Call (.Name "super" p0) [] [] p1) "__init__" p2) [.Constant (.str z) j p3] [] p4) p5, .Assign [.Attribute (.Name "self" q1) fld q2] (.Name par q3) q4]) (p5 := p5) he T I ea lk hpa har ⟨ccl, cdd, vsC, ccs, hcode, hvs⟩ hfile htop hmg rfl rfl rfl hsc (S.frk _ (by simp)) (S.par _ (by simp)) rfl rfl
  have fin : ∀ {σ' : L2.St} {H' : Hp} {v : V} {u : Value} {s' : Shared}, L2.Inv (NdefX.ncx CX P w K mg base ["self", par, "__class__"] ⟨"__init__", qual, params, [.Expr (.Call (.Attribute (.Call (.Name "super" p0) [] [] p1) "__init__" p2) [.Constant (.str z) j p3] [] p4) p5, .Assign [.Attribute (.Name "self" q1) fld q2] (.Name par q3) q4], scope, [("__class__", cc)], cda⟩ fI A outer s H E) [] σ' H' s' → L2.RelV v u → Q v H' → CE outer P w H s Q u s' :=
    fun {σ' H' v u s'} J rv q => ⟨v, H', J.os, J.bare, J.base, J.hok, rv, q⟩
  refine ks_wpAt_execs_cons (ks_wpAt_mono h1 (fun fl s' hs => ?_) fun e s' z => z)
  obtain ⟨rfl, J⟩ := hs
  refine wpAt_of_wpAny (wpAny_mono ((pss_one (ps_ost (f := fld) (p' := q2) (pos := q4) (pe_var (i := 0) (x := "self") (pos := q1) rfl (.inl (S.par _ (by simp)))) (pe_var (i := 1) (x := par) (pos := q3) rfl (.inl (S.par _ (by simp))) hd1 hd2))).run [] s' _ H { nx := fun _ H' => Q .non H', rt := Q } J ?_) (fun fl s2 hs => ?_) fun e s2 z => z)
  · exact ⟨y, rfl, .ref a, rfl, a, C, rfl, T.x, T.no, .inl ⟨ea, hq⟩⟩
  · cases fl with
    | ret u =>
      obtain ⟨v, σ', H', J, rv, q⟩ := hs
      exact fin J rv q
    | next =>
      obtain ⟨σ', H', J, q⟩ := hs
      exact fin (v := V.non) (u := Value.none) J rfl q
    | brk =>
      obtain ⟨_, _, _, q⟩ := hs
      exact False.elim q
    | cont =>
      obtain ⟨_, _, _, q⟩ := hs
      exact False.elim q
end
end Z
/-! Such an error made and raised. -/
namespace Z
open PySem PySem.Spec PyProof.Rows L2
/-- the promise of the class x: X(y) keeps y in the field fld -/
structure XsK (P : Program) (w : World) (K : PySem.W.Frag) (mg : Str → Option Value) (base : Heap) (k : Nat) (x fld : Str) : Prop where
  ex : ∃ (fI cc : Addr) (fd : FuncData) (ps : List Str), SupC K (He.ga K x) fI cc fld ∧ FnOk P w K mg base (L2.CX P w) k fI fd ps (spSup (He.ga K x) fld) ∧ Binds K fd ps [] ∧ mg x = some (.ref (He.ga K x))
/-- raise X(..) -/
def tRaise1 (E : XK) (C : Addr) (fld : Str) (ta : TA) : TS := fun _ σ H => tMkO C (spSup C fld) [] ta σ H E
/-- its end -/
theorem fld_end {C : Addr} {fld : Str} {y : V} {H1 : Hp} {Q : XK} (hq : ∀ d, H1 d = none → Q (.ref C) (some d) (upd H1 d (.xd [(fld, y)]))) : [y].length ≤ 1000 ∧ ∀ a, H1 a = none → spSup C fld (.ref a :: ([y] ++ [])) (upd H1 a (exo a C none))
    (fun v H2 => v = .non ∧ ∃ (d : Addr) (fs : List (Str × V)), H2 a = some (exo a C (some d)) ∧ H2 d = some (exd d fs) ∧ H1 d = none ∧ Q (.ref C) (some d) (upd (del H2 a) d (.xd fs))) (fun _ _ _ => False) := by
  refine ⟨by simp, fun a na => ?_⟩
  refine ⟨a, y, rfl, upd_same, fun dx nd ne => ⟨rfl, dx, [(fld, y)], upd_same, ?_, ?_, ?_⟩⟩
  · rw [upd_ne ne, upd_same]
  · rw [upd_ne ne] at nd
    exact nd
  · have n1 : H1 dx = none := by rw [upd_ne ne] at nd; exact nd
    have e : upd (del (upd (upd (upd H1 a (exo a C none)) dx (exd dx [(fld, y)])) a (exo a C (some dx))) a) dx (.xd [(fld, y)]) = upd H1 dx (.xd [(fld, y)]) := by
      funext b
      by_cases hb : b = dx
      · rw [hb, upd_same, upd_same]
      · rw [upd_ne hb, upd_ne hb]
        by_cases hba : b = a
        · rw [hba, del_same, na]
        · rw [del_ne hba, upd_ne hba, upd_ne hb, upd_ne hba]
    rw [e]
    exact hq dx n1
section
variable {X : Cx} {x fld : Str} {k j : Nat} {e : Expr} {es : List Expr} {ta : TA} {p pos : Pos}
theorem pmk_fld (c : XsK X.prog X.w X.K X.mg X.base k x fld) (hr : Room j X.A) (hk : k + 1 ≤ j) (hg : Gl X x) (hx : Passes (L2.CX X.prog X.w) X (fun _ _ _ => False)) (ha : PA X (e :: es) ta)
    (hdb : (x == ("__debug__" : Str)) = false := by decide) (he : starEach (e :: es) X.env = (false, eval e X.env) :: starEach es X.env := by rfl) (hpl : (backTo pos (starEach es X.env)).any (·.1) = false := by rfl) :
    PMk X (.Call (.Name x p) (e :: es) [] pos) (tMkO (He.ga X.K x) (spSup (He.ga X.K x) fld) [] ta) := by
  obtain ⟨fI, cc, fd, ps, T, F1, hb, hm⟩ := c.ex
  exact pmk_oex T.x T.init T.fn F1 (hr.mono hk) hb .nil hx hg hm ha hdb he hpl
end
section
variable {P : Program} {w : World} {K : PySem.W.Frag} {mg : Str → Option Value} {base : Heap} {N : List Str} {qual : Str} {sc : Scope} {f : Addr} {cdv : Value} {A : Around} {outer : List Env} {s : Shared} {H : Hp} {E : XK}
theorem passF : Passes (L2.CX P w) (cxOf (L2.CX P w) P w K mg base N qual sc f cdv A outer s H E) (fun _ _ _ => False) := L2.passes_call takesE (fun _ _ _ _ h => h.elim)
end
end Z
/-! What the top leaves of such classes: the hook with the statics, the defs with the class's cell. -/
namespace Z
open PySem PySem.Spec PyProof.Rows L2
/-- the class's name, the field, the def's qualified name, the def -/
structure SupD where
  cls : Str
  fld : Str
  qual : Str
  st : Stmt
abbrev FnS : Type := Option (Str × Str × Arguments × FuncBody × Scope × Addr × List Str × Value × Addr)
def fnS (K : PySem.W.Frag) (x : Str) : FnS := match K.lookup (He.ma K (He.ga K x) "__init__") with
  | some ⟨_, _, .func fd, _⟩ => some (fd.name, fd.qualname, fd.params, fd.body, fd.scope, fd.globals, fd.closure.map (·.1), fd.defaults, fd.builtins)
  | _ => none
def SupD.val (d : SupD) : FnS := some ("__init__", d.qual, defArgs d.st, .stmts (defBody d.st), defScope d.st, mainGlobals, ["__class__"], .none, builtinsNs)
def oexB (K : PySem.W.Frag) (C : Addr) : Bool := match K.lookup C with
  | some ⟨.type "type", _, .cls cd, sl⟩ => (match cd.mro, sl.toList with
    | .ref C' :: bm, [_, _, _, _, some (.builtin n), _] => decide (C' = C) && (decide (n = "ValueError.__new__") && (!cd.hasDel && (cd.hasDict && PySem.HandSPX.refsVE bm)))
    | _, _ => false)
  | _ => false
def clsB (K : PySem.W.Frag) (x fld : Str) : Bool :=
  oexB K (He.ga K x) && (decide (PySem.W.findIn K (.ref (He.ga K x)) "__setattr__" = some (some (.builtin "object.__setattr__"))) && (decide (PySem.W.subIn K (.ref (He.ga K x)) (.type "BaseException") = some true) && (decide (PySem.W.typeIn K (.ref (He.ga K x)) = some (.type "type")) &&
  (PySem.W.keepIn K (.ref (He.ga K x)) && (He.eqO (PySem.W.findIn K (.ref (He.ga K x)) "__init__") (some (some (.ref (He.ma K (He.ga K x) "__init__")))) && (decide (PySem.W.typeIn K (.ref (He.ma K (He.ga K x) "__init__")) = some (.type "function")) && (decide (PySem.W.mroIn K (He.ga K x) (.ref (He.ga K x)) = some true) &&
  (He.eqO (PySem.W.nsIn K cStatics "thirdparty.any") (some none) && (decide (PySem.W.subIn K (.ref (He.ga K x)) (.type "ValueError") = some true) && (He.eqO (PySem.W.ks_superIn K (He.ga K x) (He.ga K x) "__init__") (some (some (.builtin "ValueError.__init__"))) && (He.eqO (PySem.W.findIn K (.ref (He.ga K x)) fld) (some none) && xfB K (He.ga K x))))))))))))
def cellB (K : PySem.W.Frag) (C : Addr) : List (Str × Addr) → Bool
  | [(_, cc)] => (match K.lookup cc with
    | some ⟨_, _, .cell (some (.ref D)), _⟩ => decide (D = C)
    | _ => false)
  | _ => false
theorem cellB_ok {K : PySem.W.Frag} {C : Addr} {l : List (Str × Addr)} (h : cellB K C l = true) (hl : l.map (·.1) = [("__class__" : Str)]) : ∃ cc cl cld csl, l = [(("__class__" : Str), cc)] ∧ K.lookup cc = some (⟨cl, cld, .cell (some (.ref C)), csl⟩ : Obj) := by
  unfold cellB at h
  split at h
  · rename_i x cc
    have e : x = "__class__" := by
      have z : [x] = [("__class__" : Str)] := hl
      exact List.head_eq_of_cons_eq z
    subst e
    split at h
    · rename_i c d D sl ho
      have e := of_decide_eq_true h
      subst e
      exact ⟨cc, _, _, _, rfl, ho⟩
    · cases h
  · cases h
def codeB (K : PySem.W.Frag) (file : Str) : Value → Bool
  | .ref c => (match K.lookup c with
    | some ⟨_, _, .fields vs, _⟩ => (match (vs[2]? : Option Value) with
      | some (.str f _) => decide (f = file)
      | _ => false)
    | _ => false)
  | _ => false
theorem codeB_ok {K : PySem.W.Frag} {file : Str} {v : Value} (h : codeB K file v = true) : ∃ cda tf ccl cdd vs ccs, v = .ref cda ∧ K.lookup cda = some (⟨ccl, cdd, .fields vs, ccs⟩ : Obj) ∧ vs[2]? = some (.str file tf) := by
  unfold codeB at h
  split at h
  · rename_i c
    split at h
    · rename_i a b vs sl ho
      split at h
      · rename_i f t e
        have e1 := of_decide_eq_true h
        subst e1
        exact ⟨c, t, _, _, vs, _, rfl, ho, e⟩
      · cases h
    · cases h
  · cases h
/-- its def's cell, its code object -/
def defB (K : PySem.W.Frag) (x qual file : Str) : Bool := match K.lookup (He.ma K (He.ga K x) "__init__") with
  | some ⟨_, _, .func fd, _⟩ => cellB K (He.ga K x) fd.closure && (PySem.W.codeIn K fd.code qual && codeB K file fd.code)
  | _ => false
def supB (K : PySem.W.Frag) (file : Str) (d : SupD) : Bool := clsB K d.cls d.fld && defB K d.cls d.qual file
theorem oexB_ok {K : PySem.W.Frag} {C : Addr} (h : oexB K C = true) : ∃ nm q N bs bm sn sub ab col dd k0 k1 k2 k3 k5, K.lookup C = some (excClassObj nm q C N bs bm true sn sub ab col dd k0 k1 k2 k3 k5 "ValueError.__new__") ∧ PySem.HandSPX.refsVE bm = true := by
  unfold oexB at h
  split at h
  · rename_i dd cd sl ho
    split at h
    · rename_i C' bm k0 k1 k2 k3 n k5 hm hs
      obtain ⟨h1, h⟩ := He.ba h
      obtain ⟨h2, h⟩ := He.ba h
      obtain ⟨h3, h⟩ := He.ba h
      obtain ⟨h4, h5⟩ := He.ba h
      have e1 := of_decide_eq_true h1
      have e2 := of_decide_eq_true h2
      subst e1 e2
      obtain ⟨sl⟩ := sl
      have hs : sl = [k0, k1, k2, k3, some (.builtin "ValueError.__new__"), k5] := hs
      subst hs
      obtain ⟨nm, bs, mro, ns, qn, hd, sn, sb, ab, col, del⟩ := cd
      dsimp only at hm h3 h4
      subst hm h4
      have h3 : del = false := by
        cases del with
        | false => rfl
        | true => cases h3
      subst h3
      exact ⟨_, _, _, _, _, _, _, _, _, _, _, _, _, _, _, ho, h5⟩
    · cases h
  · cases h
/-- the facts of one such class -/
structure SupF (K : PySem.W.Frag) (d : SupD) (file : Str) : Prop where
  ex : ∃ cc cda oc od osl kV doc pm an ct tf, SupC K (He.ga K d.cls) (He.ma K (He.ga K d.cls) "__init__") cc d.fld ∧
    K.lookup (He.ma K (He.ga K d.cls) "__init__") = some (⟨oc, od, .func (PySem.W.fnX "__init__" d.qual (defArgs d.st) (defBody d.st) (defScope d.st) [("__class__", cc)] .none kV doc pm an (.ref cda) ct), osl⟩ : Obj) ∧ PySem.W.codeIn K (.ref cda) d.qual = true ∧
    ∃ ccl cdd vs ccs, K.lookup cda = some (⟨ccl, cdd, .fields vs, ccs⟩ : Obj) ∧ vs[2]? = some (.str file tf)
  xf : XfC K (He.ga K d.cls)
  no : PySem.W.findIn K (.ref (He.ga K d.cls)) d.fld = some none
theorem supF_of {K : PySem.W.Frag} {d : SupD} {file : Str} (e : fnS K d.cls = d.val) (h : supB K file d = true) : SupF K d file := by
  obtain ⟨ha, hb⟩ := He.ba h
  obtain ⟨a1, ha⟩ := He.ba ha
  obtain ⟨a2, ha⟩ := He.ba ha
  obtain ⟨a3, ha⟩ := He.ba ha
  obtain ⟨a4, ha⟩ := He.ba ha
  obtain ⟨a5, ha⟩ := He.ba ha
  obtain ⟨a6, ha⟩ := He.ba ha
  obtain ⟨a7, ha⟩ := He.ba ha
  obtain ⟨a8, ha⟩ := He.ba ha
  obtain ⟨a9, ha⟩ := He.ba ha
  obtain ⟨a10, ha⟩ := He.ba ha
  obtain ⟨a11, ha⟩ := He.ba ha
  obtain ⟨a12, a13⟩ := He.ba ha
  refine ⟨?_, xfB_ok a13, He.eqO_ok a12⟩
  unfold fnS at e
  unfold defB at hb
  cases q : K.lookup (He.ma K (He.ga K d.cls) "__init__") with
  | none => rw [q] at hb; cases hb
  | some o =>
    obtain ⟨oc, od, dt, osl⟩ := o
    rw [q] at hb e
    cases dt with
    | func fd =>
      obtain ⟨n1, n2, n3, n4, n5, n6, n7, n8, n9, n10, n11, n12, n13, n14, n15⟩ := fd
      have e2 : (some (n1, n2, n3, n4, n5, n6, n7.map (·.1), n8, n15) : FnS) = (some ("__init__", d.qual, defArgs d.st, .stmts (defBody d.st), defScope d.st, mainGlobals, ["__class__"], .none, builtinsNs) : FnS) := e
      simp only [Option.some.injEq, Prod.mk.injEq] at e2
      obtain ⟨h1, h2, h3, h4, h5, h6, h7, h8, h9⟩ := e2
      obtain ⟨b1, hb⟩ := He.ba hb
      obtain ⟨b2, b3⟩ := He.ba hb
      obtain ⟨cc, cl, cld, csl, ec, q2⟩ := cellB_ok b1 h7
      obtain ⟨cda, tf, ccl, cdd, vs, ccs, ed, q3, q4⟩ := codeB_ok b3
      have ec : n7 = [(("__class__" : Str), cc)] := ec
      have ed : n13 = .ref cda := ed
      subst h1 h2 h3 h4 h5 h6 h8 h9 ec ed
      exact ⟨cc, cda, oc, od, osl, _, _, _, _, _, tf, ⟨⟨oexB_ok a1, of_decide_eq_true a2, of_decide_eq_true a3, of_decide_eq_true a4, a5⟩, He.eqO_ok a6, of_decide_eq_true a7, ⟨_, _, _, q2⟩, of_decide_eq_true a8, He.eqO_ok a9, of_decide_eq_true a10, He.eqO_ok a11, He.eqO_ok a12⟩, rfl, b2, _, _, vs, _, q3, q4⟩
    | _ => cases hb
/-! ### the hook -/
abbrev AlC : Type := (He.AlT × List FnS) × Bool
def frC (g : Addr → Option Obj) (n : Nat) : PySem.W.Frag := He.frT g (He.asD g n ++ [cStatics])
def obsC (n : Nat) (fa : List He.Fa) (fn : List He.DefD) (sd : List SupD) (ex : PySem.W.Frag → Bool) (g : Addr → Option Obj) : AlC := ((He.obsT fa fn [] (frC g n), sd.map fun d => fnS (frC g n) d.cls), ex (frC g n))
def valC (fn : List He.DefD) (sd : List SupD) (w : World) : AlC := ((He.valT fn [] w, sd.map SupD.val), true)
structure SaysC (fa : List He.Fa) (fn : List He.DefD) (sd : List SupD) (ex : PySem.W.Frag → Bool) (w : World) (K : PySem.W.Frag) : Prop where
  t : He.SaysT fa fn [] w K
  s : sd.map (fun d => fnS K d.cls) = sd.map SupD.val
  more : ex K = true
def hookC (n : Nat) (fa : List He.Fa) (fn : List He.DefD) (sd : List SupD) (ex : PySem.W.Frag → Bool) : PySem.W.Hook where
  α := AlC
  obs := fun s => obsC n fa fn sd ex s.heap.get?
  val := fun w => valC fn sd w
  says := fun w h => ∃ K : PySem.W.Frag, K.In h ∧ SaysC fa fn sd ex w K
  of := fun _ _ e => ⟨_, He.frT_in, congrArg (fun z : AlC => z.1.1) e, congrArg (fun z : AlC => z.1.2) e, congrArg (fun z : AlC => z.2) e⟩
  keeps := fun _ _ _ ⟨K, hK, c⟩ k => ⟨K, PySem.W.Frag.In.keeps hK k, c⟩
theorem obsC_eq {n : Nat} {fa : List He.Fa} {fn : List He.DefD} {sd : List SupD} {ex : PySem.W.Frag → Bool} {g : Addr → Option Obj} {s : Shared} (h : ∀ a, g a = s.heap.get? a) : obsC n fa fn sd ex g = (hookC n fa fn sd ex).obs s := by
  have e : g = s.heap.get? := funext h
  rw [e] <;> rfl
theorem SaysC.sup {fa : List He.Fa} {fn : List He.DefD} {sd : List SupD} {ex : PySem.W.Frag → Bool} {w : World} {K : PySem.W.Frag} (c : SaysC fa fn sd ex w K) (i : Nat) {d : SupD} (h : sd[i]? = some d := by rfl) : fnS K d.cls = d.val := by
  have e2 : (sd.map fun d => fnS K d.cls)[i]? = (sd.map SupD.val)[i]? := by rw [c.s]
  rw [List.getElem?_map, List.getElem?_map, h] at e2
  exact Option.some.inj e2
end Z
namespace Z
open PySem PySem.Spec PyProof.Rows L2
section
variable {P : Program} {w : World} {K : PySem.W.Frag} {mg : Str → Option Value} {base : Heap} {d : SupD} {par z file : Str} {j : Nat} {p0 p1 p2 p3 p4 p5 q1 q2 q3 q4 : Pos}
theorem xsK_of (F : SupF K d file) (hm : mg d.cls = some (.ref (He.ga K d.cls))) (hfile : ((P.main.file : Str) == file) = true) (htop : (P.main.scope.names.lookup ("super" : Str)).isSome = false) (hmg : mg ("super" : Str) = none)
    (he : SupE z j p0 p1 p2 p3 p4) (S : NdefX.NScope ["self", par, "__class__"] ["self", par] ["__class__"] (defScope d.st)) (hsc : (defScope d.st).names.lookup ("super" : Str) = some .globalImplicit) (hpar : ((defArgs d.st).posonlyargs ++ (defArgs d.st).args).head?.map (·.arg) = some "self")
    (hbody : defBody d.st = [.Expr (.Call (.Attribute (.Call (.Name "super" p0) [] [] p1) "__init__" p2) [.Constant (.str z) j p3] [] p4) p5, .Assign [.Attribute (.Name "self" q1) d.fld q2] (.Name par q3) q4])
    (hb : ∀ (cl : List (Str × Addr)) (kV doc pm : Value) (an : Option Addr) (cdv ct : Value) (a b : Value), bindArgs (PySem.W.fnX "__init__" d.qual (defArgs d.st) (defBody d.st) (defScope d.st) cl .none kV doc pm an cdv ct) ⟨[a, b], []⟩ = pure (List.zip (["self", par] : List Str) [a, b]))
    (hd1 : (par == ("__debug__" : Str)) = false) (hd2 : (par == ("__classdict__" : Str)) = false) : XsK P w K mg base 1 d.cls d.fld := by
  obtain ⟨cc, cda, oc, od, osl, kV, doc, pm, an, ct, tf, T, lk, hcd, hcode⟩ := F.ex
  exact ⟨_, cc, _, ["self", par], T, sup_ok he T lk hcd hcode hfile htop hmg S hsc hpar hbody hd1 hd2, Binds.all (fun us hl => match us, hl with | [a, b], _ => hb _ _ _ _ _ _ _ a b), hm⟩
end
end Z
/-! A property by its promise; a promise made weaker; the hook with the getters' defs. -/
namespace Z
open PySem PySem.Spec PyProof.Rows L2
/-! ### weaker -/
theorem fnOk_weak {P : Program} {w : World} {K : PySem.W.Frag} {mg : Str → Option Value} {base : Heap} {CX : CXT} {k : Nat} {f : Addr} {fd : FuncData} {ps : List Str} {sp sp' : Sp} (h : ∀ vs H Q E, sp' vs H Q E → sp vs H Q E) (F : FnOk P w K mg base CX k f fd ps sp) : FnOk P w K mg base CX k f fd ps sp' :=
  ⟨fun vs H Q E z => F.len vs H Q E (h vs H Q E z), fun A outer s H args us vs Q E hr e0 hb r z => F.run A outer s H args us vs Q E hr e0 hb r (h vs H Q E z)⟩
theorem Ck.weak {P : Program} {w : World} {K : PySem.W.Frag} {mg : Str → Option Value} {base : Heap} {k : Nat} {x : Str} {C : Addr} {sp sp' : Sp} (c : Ck P w K mg base k x C sp) (h : ∀ vs H Q E, sp' vs H Q E → sp vs H Q E) : Ck P w K mg base k x C sp' := by
  obtain ⟨f, fd, ps, M, F, hm, b⟩ := c.ex
  exact ⟨f, fd, ps, M, fnOk_weak h F, hm, b⟩
theorem Cm.weak {P : Program} {w : World} {K : PySem.W.Frag} {mg : Str → Option Value} {base : Heap} {k : Nat} {C : Addr} {m : Str} {sp sp' : Sp} (c : Cm P w K mg base k C m sp) (h : ∀ vs H Q E, sp' vs H Q E → sp vs H Q E) : Cm P w K mg base k C m sp' := by
  obtain ⟨f, fd, ps, hc, hm, F, b⟩ := c.ex
  exact ⟨f, fd, ps, hc, hm, fnOk_weak h F, b⟩
/-! ### properties -/
structure Cp (P : Program) (w : World) (K : PySem.W.Frag) (mg : Str → Option Value) (base : Heap) (k : Nat) (C : Addr) (f : Str) (sp : Sp) : Prop where
  ex : ∃ (p g : Addr) (fd : FuncData) (ps : List Str), Cls K C ∧ PropOf K C f p g ∧ FnOk P w K mg base (L2.CX P w) k g fd ps sp ∧ Binds K fd ps []
section
variable {X : Cx} {k j : Nat} {C : Addr} {f : Str} {sp : Sp} {pos : Pos} {e : Expr} {ta : TE}
theorem pe_pr (c : Cp X.prog X.w X.K X.mg X.base k C f sp) (hr : Room j X.A) (hk : k + 1 ≤ j) (ha : PE X e ta) (hab : attributeBase e f X.env (eval e X.env) = eval e X.env := by rfl) : PE X (.Attribute e f pos) (tProp C sp [] E0 ta) := by
  obtain ⟨p, g, fd, ps, hc, hp, F, hb⟩ := c.ex
  exact pe_prop ha hc hp F (hr.mono hk) hb .nil passL hab
end
/-! ### what the top leaves of a getter -/
/-- the class's name, the property's, the getter's qualified name, its def -/
structure PropD where
  cls : Str
  nm : Str
  qual : Str
  st : Stmt
def gtA (K : PySem.W.Frag) (x m : Str) : Addr := match PySem.W.recIn K (He.ma K (He.ga K x) m) "property" with
  | some (.ref g :: _) => g
  | _ => 0
def fnP (K : PySem.W.Frag) (x m : Str) : He.FnW := match K.lookup (gtA K x m) with
  | some ⟨_, _, .func fd, _⟩ => some (fd.name, fd.qualname, fd.params, fd.body, fd.scope, fd.globals, fd.closure, fd.builtins)
  | _ => none
def PropD.val (d : PropD) : He.FnW := some (d.nm, d.qual, defArgs d.st, .stmts (defBody d.st), defScope d.st, mainGlobals, [], builtinsNs)
def propB (K : PySem.W.Frag) (d : PropD) : Bool :=
  He.eqO (PySem.W.findIn K (.ref (He.ga K d.cls)) d.nm) (some (some (.ref (He.ma K (He.ga K d.cls) d.nm)))) && (He.eqO (PySem.W.specialIn K (.ref (He.ma K (He.ga K d.cls) d.nm)) "__get__") (some (some (.builtin "property.__get__"))) &&
  (decide (PySem.W.takesIn K (.ref (He.ma K (He.ga K d.cls) d.nm)) = some true) && ((match PySem.W.recIn K (He.ma K (He.ga K d.cls) d.nm) "property" with
    | some (.ref g :: _) => true
    | _ => false) && (PySem.W.keepIn K (.ref (gtA K d.cls d.nm)) && (match K.lookup (gtA K d.cls d.nm) with
    | some ⟨_, _, .func fd, _⟩ => PySem.W.codeIn K fd.code d.qual && (He.dflB K fd.defaults [] && He.kwdB K fd.kwdefaults [])
    | _ => false)))))
theorem prop_of {K : PySem.W.Frag} {d : PropD} (e : fnP K d.cls d.nm = d.val) (h : propB K d = true) :
    PropOf K (He.ga K d.cls) d.nm (He.ma K (He.ga K d.cls) d.nm) (gtA K d.cls d.nm) ∧ ∃ fd, FnT K d.nm d.qual d.st [] (gtA K d.cls d.nm) fd := by
  obtain ⟨h1, h⟩ := He.ba h
  obtain ⟨h2, h⟩ := He.ba h
  obtain ⟨h3, h⟩ := He.ba h
  obtain ⟨h4, h⟩ := He.ba h
  obtain ⟨h5, h6⟩ := He.ba h
  refine ⟨⟨He.eqO_ok h1, He.eqO_ok h2, of_decide_eq_true h3, ?_⟩, ?_⟩
  · split at h4
    · rename_i g l q
      refine ⟨l, ?_⟩
      have eg : gtA K d.cls d.nm = g := by
        unfold gtA
        rw [q]
      rw [eg]
      exact q
    · cases h4
  · unfold fnP at e
    cases q : K.lookup (gtA K d.cls d.nm) with
    | none => rw [q] at h6; cases h6
    | some o =>
      obtain ⟨oc, od, dt, osl⟩ := o
      rw [q] at h6 e
      cases dt with
      | func fd =>
        obtain ⟨n1, n2, n3, n4, n5, n6, n7, n8, n9, n10, n11, n12, n13, n14, n15⟩ := fd
        have e2 : (some (n1, n2, n3, n4, n5, n6, n7, n15) : He.FnW) = some (d.nm, d.qual, defArgs d.st, .stmts (defBody d.st), defScope d.st, mainGlobals, [], builtinsNs) := e
        simp only [Option.some.injEq, Prod.mk.injEq] at e2
        obtain ⟨g1, g2, g3, g4, g5, g6, g7, g8⟩ := e2
        subst g1 g2 g3 g4 g5 g6 g7 g8
        have c3 : (PySem.W.codeIn K n13 d.qual && (He.dflB K n8 [] && He.kwdB K n9 [])) = true := h6
        obtain ⟨k1, k2⟩ := He.ba c3
        obtain ⟨k3, k4⟩ := He.ba k2
        exact ⟨_, ⟨oc, od, n8, n9, n10, n11, n12, n13, n14, osl, rfl, q, k1, He.dflB_ok k3, He.kwdB_ok k4⟩, h5⟩
      | _ => cases h6
/-- the facts of one property -/
structure PropF (K : PySem.W.Frag) (d : PropD) : Prop where
  ok : PropOf K (He.ga K d.cls) d.nm (He.ma K (He.ga K d.cls) d.nm) (gtA K d.cls d.nm)
  fn : ∃ fd, FnT K d.nm d.qual d.st [] (gtA K d.cls d.nm) fd
theorem propF_of {K : PySem.W.Frag} {d : PropD} (e : fnP K d.cls d.nm = d.val) (h : propB K d = true) : PropF K d := ⟨(prop_of e h).1, (prop_of e h).2⟩
section
variable {P : Program} {w : World} {K : PySem.W.Frag} {mg : Str → Option Value} {base : Heap} {N : List Str} {d : PropD} {fld : Str} {p1 p2 p3 : Pos}
/-- return self.f -/
theorem cp_of (F : PropF K d) (c : Cls K (He.ga K d.cls)) (n : NoAttr K (He.ga K d.cls) fld) (S : FnScope N ["self"] (defScope d.st)) (hN : N[0]? = some ("self" : Str)) (hbody : defBody d.st = [.Return (some (.Attribute (.Name "self" p1) fld p2)) p3])
    (hb : ∀ (kV doc pm : Value) (an : Option Addr) (cdv ct : Value) (us : List Value), us.length = (["self"] : List Str).length → bindArgs (PySem.W.fnOf d.nm d.qual (defArgs d.st) (defBody d.st) (defScope d.st) .none kV doc pm an cdv ct) ⟨us, []⟩ = pure ((["self"] : List Str).zip us)) :
    Cp P w K mg base 1 (He.ga K d.cls) d.nm (getSp (He.ga K d.cls) fld) := by
  obtain ⟨fd, G⟩ := F.fn
  have b := G.bindsN hb
  obtain ⟨oc, od, dV, kV, doc, pm, an, cdv, ct, osl, rfl, lk, hcd, _, _⟩ := G.ex
  exact ⟨_, _, _, ["self"], c, F.ok, fn_getter (k := 0) lk hcd S hN hbody c n, b⟩
end
/-! ### the hook -/
abbrev AlP : Type := AlC × List He.FnW
def obsP (n : Nat) (fa : List He.Fa) (fn : List He.DefD) (sd : List SupD) (pd : List PropD) (ex : PySem.W.Frag → Bool) (g : Addr → Option Obj) : AlP := (obsC n fa fn sd ex g, pd.map fun d => fnP (frC g n) d.cls d.nm)
def valP (fn : List He.DefD) (sd : List SupD) (pd : List PropD) (w : World) : AlP := (valC fn sd w, pd.map PropD.val)
structure SaysP (fa : List He.Fa) (fn : List He.DefD) (sd : List SupD) (pd : List PropD) (ex : PySem.W.Frag → Bool) (w : World) (K : PySem.W.Frag) : Prop where
  c : SaysC fa fn sd ex w K
  p : pd.map (fun d => fnP K d.cls d.nm) = pd.map PropD.val
def hookP (n : Nat) (fa : List He.Fa) (fn : List He.DefD) (sd : List SupD) (pd : List PropD) (ex : PySem.W.Frag → Bool) : PySem.W.Hook where
  α := AlP
  obs := fun s => obsP n fa fn sd pd ex s.heap.get?
  val := fun w => valP fn sd pd w
  says := fun w h => ∃ K : PySem.W.Frag, K.In h ∧ SaysP fa fn sd pd ex w K
  of := fun _ _ e => ⟨_, He.frT_in, ⟨congrArg (fun z : AlP => z.1.1.1) e, congrArg (fun z : AlP => z.1.1.2) e, congrArg (fun z : AlP => z.1.2) e⟩, congrArg (fun z : AlP => z.2) e⟩
  keeps := fun _ _ _ ⟨K, hK, c⟩ k => ⟨K, PySem.W.Frag.In.keeps hK k, c⟩
theorem obsP_eq {n : Nat} {fa : List He.Fa} {fn : List He.DefD} {sd : List SupD} {pd : List PropD} {ex : PySem.W.Frag → Bool} {g : Addr → Option Obj} {s : Shared} (h : ∀ a, g a = s.heap.get? a) : obsP n fa fn sd pd ex g = (hookP n fa fn sd pd ex).obs s := by
  have e : g = s.heap.get? := funext h
  rw [e] <;> rfl
theorem SaysP.prop {fa : List He.Fa} {fn : List He.DefD} {sd : List SupD} {pd : List PropD} {ex : PySem.W.Frag → Bool} {w : World} {K : PySem.W.Frag} (c : SaysP fa fn sd pd ex w K) (i : Nat) {d : PropD} (h : pd[i]? = some d := by rfl) : fnP K d.cls d.nm = d.val := by
  have e2 : (pd.map fun d => fnP K d.cls d.nm)[i]? = (pd.map PropD.val)[i]? := by rw [c.p]
  rw [List.getElem?_map, List.getElem?_map, h] at e2
  exact Option.some.inj e2
end Z
/-! A try whose except clauses may have a name each. -/
namespace Z
open PySem PySem.Spec PyProof.Rows L2
/-- one clause: the class, the slot of its name, its suite's reading -/
structure Cl1 where
  c : Value
  i : Option Nat
  ts : Addr → Value → Option Addr → TS
/-- the suite's wish: the name is bound, and gone at its end -/
def wOne (k : Cl1) (D : Ends) (a : Addr) (cls : Value) (d : Option Addr) (σ : L2.St) (H : Hp) : Prop := match k.i with
  | none => k.ts a cls d D σ H
  | some i => k.ts a cls d { nx := fun σ' H' => D.nx (σ'.set i none) H', rt := D.rt, bk := fun σ' H' => D.bk (σ'.set i none) H', ct := fun σ' H' => D.ct (σ'.set i none) H' } (σ.set i (some (.ref a))) H
/-- what the clauses wish of an exception of the body -/
def wMix (K : PySem.W.Frag) (Wout : WX) (D : Ends) : List Cl1 → WX
  | [] => Wout
  | k :: r => fun cls d σ H => ∃ b, PySem.W.exmOne K cls k.c = some b ∧ (b = true → ∀ a, H a = none → wOne k D a cls d σ H) ∧ (b = false → wMix K Wout D r cls d σ H)
inductive HdsMix (X : Cx) : List ExceptHandler → List Cl1 → Prop
  | nil : HdsMix X [] []
  | cons {x : Str} {c : Value} {ts : Addr → Value → Option Addr → TS} {b₀ : Stmt} {suite : List Stmt} {np pos' : Pos} {hds : List ExceptHandler} {l : List Cl1} (hc : Names X x c)
      (hsu : ∀ (a : Addr) (oe : Obj) (cls : Value) (d : Option Addr) (pn : List (Addr × Obj)), Zc cls d oe → (∃ vs, oe.data = .fields vs) → PSs (X.suite a ((a, oe) :: pn)) (b₀ :: suite) (ts a cls d)) (r : HdsMix X hds l) :
      HdsMix X (.ExceptHandler (some (.Name x np)) none (b₀ :: suite) pos' :: hds) (⟨c, none, ts⟩ :: l)
  | consN {x n : Str} {c : Value} {i : Nat} {ts : Addr → Value → Option Addr → TS} {b₀ : Stmt} {suite : List Stmt} {np pos' : Pos} {hds : List ExceptHandler} {l : List Cl1} (hN : X.N.Nodup) (hi : X.N[i]? = some n) (hln : X.env.kindOf n = some .local) (hc : Names X x c)
      (hsu : ∀ (a : Addr) (oe : Obj) (cls : Value) (d : Option Addr) (pn : List (Addr × Obj)), Zc cls d oe → (∃ vs, oe.data = .fields vs) → PSs (X.suite a ((a, oe) :: pn)) (b₀ :: suite) (ts a cls d)) (r : HdsMix X hds l) :
      HdsMix X (.ExceptHandler (some (.Name x np)) (some n) (b₀ :: suite) pos' :: hds) (⟨c, some i, ts⟩ :: l)
section
variable {X : Cx} {body : List Stmt} {h₀ : ExceptHandler} {hds : List ExceptHandler} {l : List Cl1} {pos : Pos} {tb : WX → TS} {Wout : WX}
theorem ps_try_mix (hs : X.stack = X.env :: X.outer) (hf : X.env.frame = some X.env.locals) (tk : Takes X Wout)
    (hb : ∀ (W : WX) (pn : List (Addr × Obj)) (xe : Value → Shared → Prop), Takes (X.tr pn xe) W → PassesOwn (model X.prog X.w) X.A X.env xe → PSs (X.tr pn xe) body (tb W))
    (hh : HdsMix X (h₀ :: hds) l) : PS X (.Try body (h₀ :: hds) [] [] pos) (fun D σ H => tb (wMix X.K Wout D l) D σ H) := by
  refine ⟨fun pins s σ H D I h => ?_⟩
  have ok := I.ok
  have hfr : X.A.frames = some (X.env :: X.outer) := by rw [ok.frames, hs]
  refine wpAny_Try_except ?_
  have hq := (hb (wMix X.K Wout D l) (X.pn ++ pins) (fun e s₁ => wpAny (model X.prog X.w) X.A (noteFrame e X.env) (fun _ s₂ => wpAny (model X.prog X.w) X.A (setFlight e none) (fun _ s₃ =>
    wpAny (model X.prog X.w) X.A (handleBy e X.env (h₀ :: hds)) (SP X pins D) X.xe s₃) X.xe s₂) X.xe s₁) (fun u s' xx => ?_) PassesOwn.looking).run [] s σ H D (I.toTry _) h
  · refine wpAny_mono hq (fun f s1 hsp => ?_) (fun e s1 he => he)
    cases f with
    | next =>
      obtain ⟨σ', H', J', q⟩ := hsp
      exact wpAny_execs_nil ⟨σ', H', J'.ofTry ok, q⟩
    | brk =>
      obtain ⟨σ', H', J', q⟩ := hsp
      exact ⟨σ', H', J'.ofTry ok, q⟩
    | cont =>
      obtain ⟨σ', H', J', q⟩ := hsp
      exact ⟨σ', H', J'.ofTry ok, q⟩
    | ret u =>
      obtain ⟨v, σ', H', J', r, q⟩ := hsp
      exact ⟨v, σ', H', J'.ofTry ok, r, q⟩
  · obtain ⟨a, B, sI, pins', σ', H', cls, d, rfl, J', nb, up, sky, na, os, ag, w⟩ := xx
    have J : L2.Inv X pins σ' H' sI := J'.ofTry ok
    have sky' : Sky B (X.env :: X.outer) a (Zc cls d) X.env.locals s'.heap := by rw [← hs]; exact sky
    show wpAny (model X.prog X.w) X.A (noteFrame (.ref a) X.env) _ _ _
    refine Sky.land Zc.steady hfr hf sky' fun h3 fl3 up3 => ?_
    have J3 : L2.Inv X pins σ' H' { s' with heap := h3 } := J.landed nb fl3.1 (up.trans up3) os ag
    obtain ⟨oe3, vs3, he3, hz3, hd3⟩ := fl3.there
    have nfr : a ∉ frs (X.env :: X.outer) := fun hm => by
      obtain ⟨_, o', e', hnf⟩ := fl3.2.2.1.mem hm
      rw [he3] at e'
      cases e'
      exact hnf _ hd3
    have nL : a ≠ X.env.locals := fun z => nfr (List.mem_filterMap.mpr ⟨X.env, List.mem_cons_self, by rw [hf, z]⟩)
    have nF : a ∉ X.fs := fun hm => by
      obtain ⟨e, he, q⟩ := List.mem_filterMap.mp hm
      exact nfr (List.mem_filterMap.mpr ⟨e, List.mem_cons_of_mem _ he, q⟩)
    have S3 := J3.suite he3 hd3 na nL nF
    have test : ∀ {x : Str} {np : Pos} {c : Value} {Q : Value → Shared → Prop} {E : Value → Shared → Prop}, Names X x c → Q c { s' with heap := h3 } → wpAny (model X.prog X.w) (X.A.mark (some (.ref a))) (eval (.Name x np) X.env) Q E { s' with heap := h3 } := fun {x np c Q E} hc q => by
      obtain ⟨hg, hdbg, hm | ⟨hm, hv, hnn⟩⟩ := hc
      · exact ld_glob (X := X.suite a ((a, oe3) :: (X.pn ++ pins))) S3 hg hm q hdbg
      · exact ld_blt (X := X.suite a ((a, oe3) :: (X.pn ++ pins))) S3 hg hm hv q hnn hdbg
    have LT : PySem.W.Looks (model X.prog X.w) h3 (typeOf (.ref a)) cls := fun A Q E s k q => wpAny_typeOf_ref (k _ _ he3) (by rw [hz3.1]; exact q)
    have go : ∀ {hds' : List ExceptHandler} {l' : List Cl1}, HdsMix X hds' l' → wMix X.K Wout D l' cls d σ' H' → wpAny (model X.prog X.w) X.A (handleBy (.ref a) X.env hds') (SP X pins D) X.xe { s' with heap := h3 } := by
      intro hds' l' hk
      induction hk with
      | nil =>
        intro w
        refine wpAny_handleBy_nil ?_
        obtain ⟨k1, k2, k3, oe, vs, T, oT, ts', he, hz, hd, h1, hr⟩ := id fl3
        unfold PySem.passOn
        refine wpAny_bind (wpAny_field he hd h1 ?_)
        rw [if_neg (show ¬ ((Value.ref T == Value.none) = true) from by simp)]
        have fin : wpAny (model X.prog X.w) X.A (setFlight (.ref a) X.env.frame) (fun _ s4 => wpAny (model X.prog X.w) X.A (throw (.ref a) : Sem Flow) (SP X pins D) X.xe s4) X.xe { s' with heap := h3 } := by
          rw [hf]
          refine HandSPX.setFlight_upZ fl3 fun h4 hh4 up4 => wpAny_throw (tk _ _ ?_)
          exact ⟨a, B, sI, pins, σ', H', cls, d, rfl, J, nb, (up.trans up3).trans up4, .inr (.inr (by rw [hs]; exact hh4)), na, os, ag, w⟩
        first
          | exact wpAny_bind (wpAny_pure (wpAny_bind fin))
          | exact wpAny_bind fin
      | cons hc hsu r ih =>
        intro w
        obtain ⟨b, hb1, hyes, hno⟩ := w
        refine wpAny_handleBy_cons (codeAny_handlers_test ?_) (by intro q; cases q)
        refine test hc ((PySem.W.exm_one (M := model X.prog X.w) (J3.kIn) LT hb1).here ?_)
        cases b with
        | false => exact ih (hno rfl)
        | true =>
          refine codeAny_handlers_suite ?_
          refine HandSPX.lands_againZ fl3 fun h4 fl4 up4 => ?_
          have J4 : L2.Inv X pins σ' H' { s' with heap := h4 } := J.landed nb fl4.1 ((up.trans up3).trans up4) os ag
          obtain ⟨oe4, vs4, he4, hz4, hd4⟩ := fl4.there
          have S4 := J4.suite he4 hd4 na nL nF
          refine wpAny_mono ((hsu a oe4 cls d (X.pn ++ pins) hz4 ⟨_, hd4⟩).run [] _ _ H' _ S4 (hyes rfl a na)) (fun f s6 hsp => ?_) (fun _ _ z => False.elim z)
          cases f with
          | next =>
            obtain ⟨σ6, H6, S6, q6⟩ := hsp
            exact ⟨_, _, S6.unsuite ok, q6⟩
          | brk =>
            obtain ⟨σ6, H6, S6, q6⟩ := hsp
            exact ⟨_, _, S6.unsuite ok, q6⟩
          | cont =>
            obtain ⟨σ6, H6, S6, q6⟩ := hsp
            exact ⟨_, _, S6.unsuite ok, q6⟩
          | ret u =>
            obtain ⟨v6, σ6, H6, S6, r6, q6⟩ := hsp
            exact ⟨_, _, _, S6.unsuite ok, r6, q6⟩
      | @consN x n c i ts b₀ suite np pos' hds2 l2 hN hi hln hc hsu r ih =>
        intro w
        obtain ⟨b, hb1, hyes, hno⟩ := w
        refine wpAny_handleBy_cons (codeAny_handlers_test ?_) (by intro q; cases q)
        refine test hc ((PySem.W.exm_one (M := model X.prog X.w) (J3.kIn) LT hb1).here ?_)
        cases b with
        | false => exact ih (hno rfl)
        | true =>
          refine codeAny_handlers_suite_as ?_
          refine HandSPX.lands_againZ fl3 fun h4 fl4 up4 => ?_
          have J4 : L2.Inv X pins σ' H' { s' with heap := h4 } := J.landed nb fl4.1 ((up.trans up3).trans up4) os ag
          obtain ⟨oe4, vs4, he4, hz4, hd4⟩ := fl4.there
          have S4 := J4.suite he4 hd4 na nL nF
          refine store_ok (X := X.suite a ((a, oe4) :: (X.pn ++ pins))) (v := .ref a) S4 hN hi (.inl hln) rfl (fun s5 S5 => ?_) (.inr hln)
          refine wpAny_mono ((hsu a oe4 cls d (X.pn ++ pins) hz4 ⟨_, hd4⟩).run [] s5 _ H' _ S5 (hyes rfl a na)) (fun f s6 hsp => ?_) (fun _ _ z => False.elim z)
          have end_ : ∀ {σ6 : L2.St} {H6 : Hp} {Q : Shared → Prop}, L2.Inv (X.suite a ((a, oe4) :: (X.pn ++ pins))) [] σ6 H6 s6 → (∀ s7, L2.Inv X pins (σ6.set i none) H6 s7 → Q s7) →
              wpAny (model X.prog X.w) X.A (do bindName X.env n .none; unbindBehindTheSuite X.env n pos') (fun _ s7 => Q s7) X.xe s6 := fun {σ6 H6 Q} S6 hq => gone_ok (S6.unsuite ok) hN hi hln hq
          cases f with
          | next =>
            obtain ⟨σ6, H6, S6, q6⟩ := hsp
            exact end_ S6 fun s7 J7 => ⟨_, _, J7, q6⟩
          | brk =>
            obtain ⟨σ6, H6, S6, q6⟩ := hsp
            exact end_ S6 fun s7 J7 => ⟨_, _, J7, q6⟩
          | cont =>
            obtain ⟨σ6, H6, S6, q6⟩ := hsp
            exact end_ S6 fun s7 J7 => ⟨_, _, J7, q6⟩
          | ret u =>
            obtain ⟨v6, σ6, H6, S6, r6, q6⟩ := hsp
            exact end_ S6 fun s7 J7 => ⟨_, _, _, J7, r6, q6⟩
    exact go hh w
end
/-- the reading of such a try -/
def tTryMix (K : PySem.W.Frag) (tb : WX → TS) (E : XK) (l : List Cl1) : TS := fun D σ H => tb (wMix K (fun cls d _ H' => E cls d H') D l) D σ H
end Z
/-! Methods, makers and len of an own object, by what is known of the class; also where an exception is caught. -/
namespace Z
open PySem PySem.Spec PyProof.Rows L2
section
variable {X : Cx} {k j : Nat} {C : Addr} {x m : Str} {sp : Sp} {p pos apos : Pos} {e o : Expr} {es : List Expr} {ta : TE} {t : TA} {E : XK}
theorem pe_mt {pl : Sem Bool} (c : Cm X.prog X.w X.K X.mg X.base k C m sp) (hr : Room j X.A) (hk : k ≤ j) (hx : Passes (L2.CX X.prog X.w) X E) (ho : PE X o ta) (ha : PA X (e :: es) t)
    (hst : starEach (e :: es) X.env = (false, eval e X.env) :: starEach es X.env := by rfl) (hpl : (backTo pos (starEach es X.env)).any (·.1) = false := by rfl)
    (hform : eval (.Call (.Attribute o m apos) (e :: es) [] pos) X.env = (do
      let who ← eval o X.env
      standAt apos.atName
      let (fn, fst) ← holding [who] (getMethod who m pl)
      callWith pos fn fst (backTo pos (starEach (e :: es) X.env)) (backToKw pos (keywordEach [] X.env))) := by rfl) :
    PE X (.Call (.Attribute o m apos) (e :: es) [] pos) (tMeth C m sp [] E ta t) := by
  obtain ⟨f, fd, ps, cl, hm, F, b⟩ := c.ex
  exact pe_meth (pl := pl) ho cl hm F (hr.mono hk) b .nil hx ha hst hpl hform
theorem pe_mt0 {pl : Sem Bool} (c : Cm X.prog X.w X.K X.mg X.base k C m sp) (hr : Room j X.A) (hk : k ≤ j) (hx : Passes (L2.CX X.prog X.w) X E) (ho : PE X o ta)
    (hform : eval (.Call (.Attribute o m apos) [] [] pos) X.env = (do
      let who ← eval o X.env
      standAt apos.atName
      let (fn, fst) ← holding [who] (getMethod who m pl)
      callWith pos fn fst (backTo pos (starEach [] X.env)) (backToKw pos (keywordEach [] X.env))) := by rfl) :
    PE X (.Call (.Attribute o m apos) [] [] pos) (tMeth C m sp [] E ta tNil) := by
  obtain ⟨f, fd, ps, cl, hm, F, b⟩ := c.ex
  exact pe_meth0 (pl := pl) ho cl hm F (hr.mono hk) b .nil hx hform
/-- o.m(), what is raised being caught around it -/
def tMethSD (C : Addr) (m : Str) (sp : Sp) (W : L2.St → XK) (ta : TE) (t : TA) : TE := fun σ H Q => ta σ H fun x H1 => ∃ a dx fs, x = .ref a ∧ H1 a = some (.ins C dx fs) ∧ fs.lookup m = none ∧ t σ H1 fun vs H2 => sp (x :: vs) H2 Q (W σ)
theorem pe_mt0S {W : L2.St → XK} {pl : Sem Bool} (c : Cm X.prog X.w X.K X.mg X.base k C m sp) (hr : Room j X.A) (hk : k ≤ j) (hx : ∀ σ, PassesAt (L2.CX X.prog X.w) X σ (W σ)) (ho : PE X o ta)
    (hform : eval (.Call (.Attribute o m apos) [] [] pos) X.env = (do
      let who ← eval o X.env
      standAt apos.atName
      let (fn, fst) ← holding [who] (getMethod who m pl)
      callWith pos fn fst (backTo pos (starEach [] X.env)) (backToKw pos (keywordEach [] X.env))) := by rfl) :
    PE X (.Call (.Attribute o m apos) [] [] pos) (tMethSD C m sp W ta tNil) := by
  obtain ⟨f, fd, ps, cl, hm, F, b⟩ := c.ex
  refine ⟨fun pins s σ H Q I h => ?_⟩
  refine PySem.W.methodCall_KW (pl := pl) (thn (ho.run pins s σ H _ I h) fun u s1 ⟨v, H1, I1, rv, a, dx, fs, ev, ea, l, q⟩ => ?_) hform
  subst ev
  obtain rfl : u = Value.ref a := rv
  refine getmeth_ok I1 ea cl hm l ?_
  refine PySem.W.callWith_K0 (first := [.ref a]) I1.kIn hm.kp ?_
  refine run_fnSD (dvs := []) (us := [.ref a]) (vs := [.ref a]) F (hr.mono hk) b .nil (hx σ) I1 (.cons rfl .nil) ?_
  exact q
/-- C(..), what is raised being caught around it -/
def tMakeSD (C : Addr) (sp : Sp) (W : L2.St → XK) (t : TA) : TE := fun σ H Q => t σ H fun vs H1 => ∀ p dp, H1 p = none → H1 dp = none → dp ≠ p →
  sp (.ref p :: vs) (upd (upd H1 dp (.own p)) p (.ins C dp [])) (fun v H2 => v = .non ∧ Q (.ref p) H2) (W σ)
theorem pe_mkcS {W : L2.St → XK} (c : Ck X.prog X.w X.K X.mg X.base k x C sp) (hr : Room j X.A) (hk : k + 1 ≤ j) (hg : Gl X x)
    (hx : ∀ (σ : L2.St) (pins : List (Addr × Obj)) (H Hm : Hp) (s : Shared) (er : Value) (s' : Shared), Inv X pins σ Hm s → L2.CX X.prog X.w X.stack Hm s (W σ) er s' → X.xe er s') (ha : PA X (e :: es) t)
    (hdb : (x == ("__debug__" : Str)) = false := by decide) (he : starEach (e :: es) X.env = (false, eval e X.env) :: starEach es X.env := by rfl) (hpl : (backTo pos (starEach es X.env)).any (·.1) = false := by rfl) :
    PE X (.Call (.Name x p) (e :: es) [] pos) (tMakeSD C sp W t) := by
  obtain ⟨f, fd, ps, M, F, hm, b⟩ := c.ex
  have hr2 : Room (k + 1) X.A := hr.mono hk
  refine ⟨fun pins s σ H Q I h => ?_⟩
  refine wpAny_Call_Name_kw (ld_glob I hg hm ?_ hdb)
  refine PySem.W.callWith_K (h₀ := X.base) I.ok.mod.kin M.kp (thn (ha.run pos pins s σ H _ I h) fun us s1 ⟨vs, H1, I1, r, q⟩ => ⟨I1.kIn, ?_⟩) he hpl
  have hq := q (s1.heap.objs.size + 1) s1.heap.objs.size (I1.hok.fresh (Nat.le_succ _)) (I1.hok.fresh (Nat.le_refl _)) (Nat.ne_of_lt (Nat.lt_succ_self _))
  have I2 := Inv.made (C := C) I1
  have r2 : Vals (V.ref (s1.heap.objs.size + 1) :: vs) (Value.ref (s1.heap.objs.size + 1) :: us) := .cons rfl r
  have hl : (Value.ref (s1.heap.objs.size + 1) :: us ++ []).length = ps.length := by
    have z := r2.length
    rw [F.len _ _ _ _ hq] at z
    rw [List.append_nil]
    exact z.symm
  have bb := b _ (Value.ref (s1.heap.objs.size + 1) :: us) I2.kIn hl
  rw [List.append_nil] at bb
  refine wpAny_call (make_map (f := f) I1.kIn M.makes M.init (beq_iff_eq.mp M.fn) (codeAny_mono (F.run _ X.stack _ _ ⟨Value.ref (s1.heap.objs.size + 1) :: us, []⟩ (Value.ref (s1.heap.objs.size + 1) :: us) _ _ (W σ) (hr2.make C us [])
    (I2.env0.make C us []) bb r2 hq) fun res s' hres => ?_))
  cases res with
  | error er => exact hx σ pins H _ _ er s' I2 hres
  | ok fl =>
    cases fl with
    | ret u =>
      obtain ⟨v, H', I3, rv, ev, q3⟩ := I2.after hres
      subst ev
      exact ⟨rv, ⟨V.ref (s1.heap.objs.size + 1), H', I3, rfl, q3⟩⟩
    | next => exact False.elim hres
    | brk => exact False.elim hres
    | cont => exact False.elim hres
theorem passMk {W : WX} (tk : Takes X W) : ∀ (σ : L2.St) (pins : List (Addr × Obj)) (H Hm : Hp) (s : Shared) (er : Value) (s' : Shared), Inv X pins σ Hm s → L2.CX X.prog X.w X.stack Hm s (WE W σ) er s' → X.xe er s' :=
  fun σ pins H Hm s er s' I cx => passAt tk σ pins Hm s er s' I cx
/-- len(o), o an instance whose class says __len__ -/
def rLenI (C : Addr) (sp : Sp) (E : XK) : RL := fun xs H Q => ∃ a dx fs, xs = [.ref a] ∧ H a = some (.ins C dx fs) ∧ sp [.ref a] H (fun v H' => ∃ n : Int, v = .int n ∧ 0 ≤ n ∧ n < 2 ^ 63 ∧ Q (.int n) H') E
theorem call_lenI (c : Cm X.prog X.w X.K X.mg X.base k C "__len__" sp) (hr : Room j X.A) (hk : k + 1 ≤ j) (hx : Passes (L2.CX X.prog X.w) X E) : CallR X (.builtin "len") (rLenI C sp E) := by
  obtain ⟨f, fd, ps, cl, hm, F, b⟩ := c.ex
  intro pins s σ H xs us Q I r ⟨a, dx, fs, ex, ea, q⟩
  subst ex
  obtain rfl := Vals.ref1 r
  obtain ⟨mA, J, _⟩ := ins_get I.hok ea
  obtain ⟨od, J, _⟩ := J.look
  obtain ⟨m, hF⟩ := I.fr
  refine PySem.W.len_K hF I.ok.mod.kin J hm.1 hm.2 ?_
  have hl : ([Value.ref a] ++ []).length = ps.length := by
    rw [← F.len _ _ _ _ q]
    rfl
  have bb := b s [Value.ref a] I.kIn hl
  rw [List.append_nil] at bb
  have hr2 : Room (k + 1) X.A := hr.mono hk
  refine wpAny_call (codeAny_mono (F.run X.A.in1 X.stack s H ⟨[.ref a], []⟩ [.ref a] [.ref a] _ E hr2.in1 I.env0.in1 bb (.cons rfl .nil) q) fun res s' hq => ?_)
  cases res with
  | error er => exact hx pins σ H s er s' I hq
  | ok fl =>
    cases fl with
    | ret u =>
      obtain ⟨v, H', I3, rv, n, ev, n0, n1, q3⟩ := I.after hq
      subst ev
      obtain ⟨tk, rfl⟩ := rv
      exact ⟨⟨n0, n1⟩, .int n, H', I3.tok _, ⟨_, rfl⟩, q3⟩
    | next => exact False.elim hq
    | brk => exact False.elim hq
    | cont => exact False.elim hq
end
end Z
/-! == of an instance and a value of a built-in type, by the own __eq__; C(..) within a try; a property. -/
namespace Z
open PySem PySem.Spec PyProof.Rows L2
section
variable {X : Cx} {n j k : Nat} {C : Addr} {sp : Sp} {E : XK} {x : Str} {p pos : Pos} {e : Expr} {es : List Expr} {t : TA}
/-- a == b, a an instance of the class at C, b of a built-in type that does not stand under C -/
def rEqIT (K : PySem.W.Frag) (C : Addr) (sp : Sp) (E : XK) : R2 := fun x y H Q => ∃ a dx fs T, x = .ref a ∧ H a = some (.ins C dx fs) ∧ TyX K H y (.type T) ∧ PySem.W.subIn K (.type T) (.ref C) = some false ∧ sp [.ref a, y] H Q E
theorem op_eqIT (c : Cm X.prog X.w X.K X.mg X.base n C "__eq__" sp) (hr : Room j X.A) (hk : n ≤ j) (hx : Passes (L2.CX X.prog X.w) X E) : OpR X (compareOp .Eq) (rEqIT X.K C sp E) := by
  obtain ⟨f, fd, ps, hc, hm, F, hb⟩ := c.ex
  intro pins s σ H x y v u Q I rx ry ⟨a, dx, fs, T, ex, ha, ht, hs, q⟩
  subst ex
  cases rx
  obtain ⟨mA, J, _⟩ := ins_get I.hok ha
  obtain ⟨od, J, _⟩ := J.look
  obtain ⟨m, hF⟩ := I.fr
  obtain ⟨PP, KX, hP, _⟩ := kit_of I ry ht
  refine PySem.W.cmp_K (op := .Eq) (tb := .type T) hr.units0 hF I.ok.mod.kin J (KX.ty _ _ I.kIn hP) (by unfold PySem.W.notFirst; rw [hs]; simp) hm.1 hm.2 ?_
  have rv : Vals [V.ref a, y] [Value.ref a, u] := .cons rfl (.cons ry .nil)
  refine wpAny_mono (run_fn (dvs := []) F (hr.mono hk) hb .nil hx I rv (by rw [List.append_nil]; exact q)) (fun v s1 hv => ?_) fun _ _ z => z
  obtain ⟨z, H1, I1, rz, qz⟩ := id hv
  cases z with
  | non => cases rz; exact hv
  | bl _ => cases rz; exact hv
  | int _ => obtain ⟨t, rfl⟩ := rz; exact hv
  | str _ => obtain ⟨t, rfl⟩ := rz; exact hv
  | byt _ => obtain ⟨t, rfl⟩ := rz; exact hv
  | flt _ => obtain ⟨t, rfl⟩ := rz; exact hv
  | ref _ => cases rz; exact hv
  | ty _ => cases rz; exact hv
end
end Z
namespace Z
open PySem PySem.Spec PyProof.Rows L2
local macro_rules | `(tactic| walk_at "look") => `(tactic| first | assumption | exact upd_same | exact SqL.of (by assumption) | exact SqT.of (by assumption) | exact SqL.of upd_same | exact SqT.of upd_same)
local macro_rules | `(tactic| walk_at "at") => `(tactic| first | exact at0 | exact at1 | exact at2 | exact at3 | exact ix0 | exact ix1 | assumption | exact atI_nat (by rfl))
local macro_rules | `(tactic| walk_at "sd") => `(tactic| ((try dsimp only); first | assumption | omega | (unfold CMul; omega) | (unfold CDiv; omega) | (unfold CPow; decide) | decide))
local macro_rules | `(tactic| walk_at "st") => `(tactic| first
  | (refine ⟨_, rfl, ?_⟩)
  | (refine ⟨_, _, rfl, rfl, ?_⟩)
  | (refine ⟨rfl, ?_⟩)
  | (refine .inl ⟨_, rfl, ?_⟩)
  | (refine ⟨_, _, _, _, rfl, rfl, (by walk_at "look"), (by walk_at "at"), ?_⟩)
  | (refine ⟨_, _, rfl, .inl (by walk_at "look"), ?_⟩)
  | (refine And.intro (by walk_at "sd") ?_)
  | fail "no step")
local macro_rules | `(tactic| walk_at "go") => `(tactic| repeat' (walk_at "st"))
local macro_rules | `(tactic| walk_at "ans") => `(tactic| (intro Q q; (repeat' (walk_at "st")); exact q))

/-! ### what Rhyme(..) says of any two values -/
inductive Rs where
  | bad (i : Int)
  | left
  | fine (vs : List Ve) (left : Int)
def Rs.v : Rs → V
  | .bad i => .int i
  | .left => .str "left"
  | .fine _ _ => .non
inductive ToldR (K : PySem.W.Frag) (H : Hp) (v l : V) : Rs → Prop
  | odd {t : String} (ht : ∀ H', Ex H H' → TyX K H' v (.type t)) (hk : kitB t "tuple" = some false) : ToldR K H v l (.bad (-1))
  | len {ds : List PyData} (hd : Dp K H v (.tuple ds)) (hn : ds.length = 0 ∨ 4 < ds.length) : ToldR K H v l (.bad (-1))
  | here {ds : List PyData} {i : Nat} {d : PyData} (hd : Dp K H v (.tuple ds)) (h1 : 1 ≤ ds.length) (h4 : ds.length ≤ 4) (ok : ∀ (j : Nat) (e : PyData), j < i → ds[j]? = some e → isVerse e = true) (hi : ds[i]? = some d) (hn : isVerse d = false) : ToldR K H v l (.bad (i : Nat))
  | left {ds : List PyData} {dl : PyData} (hd : Dp K H v (.tuple ds)) (h1 : 1 ≤ ds.length) (h4 : ds.length ≤ 4) (ok : ∀ d ∈ ds, isVerse d = true) (hl : Dp K H l dl) (hn : isBet dl 1 3 = false) : ToldR K H v l .left
  | fine {vs : List Ve} {left : Int} (hd : Dp K H v (vsD vs)) (hl : l = .int left) (ok : RhOk vs left) : ToldR K H v l (.fine vs left)
theorem told_ex {K : PySem.W.Frag} {H H' : Hp} {v l : V} {r : Rs} (e : Ex H H') (h : ToldR K H v l r) : ToldR K H' v l r := by
  cases h with
  | odd ht hk => exact .odd (fun H2 e2 => ht H2 (ex_trans e e2)) hk
  | len hd hn => exact .len (dp_ex e hd) hn
  | here hd h1 h4 ok hi hn => exact .here (dp_ex e hd) h1 h4 ok hi hn
  | left hd h1 h4 ok hl hn => exact .left (dp_ex e hd) h1 h4 ok (dp_ex e hl) hn
  | fine hd hl ok => exact .fine (dp_ex e hd) hl ok
/-- what is wished behind it -/
def inW (K : PySem.W.Frag) (p : Addr) (H : Hp) (Q : VK) (E : XK) : Rs → Prop
  | .bad i => ∀ (d : Addr) (H' : Hp), H' d = some (.xd [("index", .int i)]) → Ex H H' → E (.ref (He.ga K "BadVerses")) (some d) H'
  | .left => ∀ H' : Hp, Ex H H' → E (.ref (He.ga K "BadLeft")) none H'
  | .fine vs left => ∀ H' : Hp, RhAt K H' p vs left → (∀ b o, H b = some o → b ≠ p → H' b = some o) → Q .non H'
@[irreducible] def sp_Rhymeu_inituR (K : PySem.W.Frag) : Sp := fun ws H Q E => ∃ (p dx : Addr) (v l : V) (r : Rs), ws = [.ref p, v, l] ∧ H p = some (.ins (He.ga K "Rhyme") dx []) ∧ ToldR K H v l r ∧ inW K p H Q E r
theorem init_weak {K : PySem.W.Frag} (ws : List V) (H : Hp) (Q : VK) (E : XK) (h : sp_Rhymeu_initu K ws H Q E) : sp_Rhymeu_inituR K ws H Q E := by
  unfold sp_Rhymeu_initu at h
  obtain ⟨p, dx, v, vs, left, rfl, hp, hv, ok, k⟩ := h
  unfold sp_Rhymeu_inituR
  exact ⟨p, dx, v, .int left, .fine vs left, rfl, hp, .fine hv rfl ok, k⟩
def t_Rhymeu_inituR_0a_0 (K : PySem.W.Frag) (E : XK) : TS := (tRaise1 E (He.ga K "BadVerses") "index" (tCons (tUn oNeg (tC (.int 1))) tNil))

def t_Rhymeu_inituR_1a_0a_0 (K : PySem.W.Frag) (E : XK) : TS := (tRaise1 E (He.ga K "BadVerses") "index" (tCons (tVar 3) tNil))

@[irreducible] def t_Rhymeu_inituR_1a_0 (K : PySem.W.Frag) (E : XK) : TS := (tIfS (tNot (tB (tCall (sp_is_verse K) [] E (tCons (tVar 4) tNil))))
    (t_Rhymeu_inituR_1a_0a_0 K E) tNext)

def t_Rhymeu_inituR_2a_0 (K : PySem.W.Frag) (E : XK) : TS := (tRaise0 E (He.ga K "BadLeft"))

def t_Rhymeu_inituR_5 (K : PySem.W.Frag) (E : XK) : TS := (sFld K (tVar 0) (tCB (cTup K) (tCons (tLc (iTup K (tVar 1)) (gTup K 2 (gCons (gName 5) (gCons (gName 6) gNil))) tYes (tIf (tTest (tOp rEq (tVar 5) (tC (.str "on")))) (tVar 6) (tOp oSub (tC (.int 1)) (tVar 6))) [5, 6]) tNil)) "rises")

def t_Rhymeu_inituR_4 (K : PySem.W.Frag) (E : XK) : TS := tSeq (sFld K (tVar 0) (tVar 2) "own_left") (t_Rhymeu_inituR_5 K E)

def t_Rhymeu_inituR_3 (K : PySem.W.Frag) (E : XK) : TS := tSeq (sFld K (tVar 0) (tVar 1) "own_verses") (t_Rhymeu_inituR_4 K E)

@[irreducible] def t_Rhymeu_inituR_2 (K : PySem.W.Frag) (E : XK) : TS := tSeq (tIfS (tNot (tB (tCall (sp_is_between K) [] E (tCons (tVar 2) (tCons (tC (.int 1)) (tCons (tC (.int 3)) tNil))))))
    (t_Rhymeu_inituR_2a_0 K E) tNext) (t_Rhymeu_inituR_3 K E)

@[irreducible] def t_Rhymeu_inituR_1 (K : PySem.W.Frag) (E : XK) : TS := tSeq (tFor (iEnumT K (tCons (tVar 1) tNil)) (gTup K 2 (gCons (gName 3) (gCons (gName 4) gNil)))
    (t_Rhymeu_inituR_1a_0 K E)) (t_Rhymeu_inituR_2 K E)

@[irreducible] def t_Rhymeu_inituR_0 (K : PySem.W.Frag) (E : XK) : TS := tSeq (tIfS (tOr (tNot (tB (tCB (rIsi K) (tCons (tVar 1) (tCons (tC (.ty "tuple")) tNil))))) (tNot (tTest (tChain oLe oLe (tC (.int 1)) (tCB (cLen K) (tCons (tVar 1) tNil)) (tC (.int 4))))))
    (t_Rhymeu_inituR_0a_0 K E) tNext) (t_Rhymeu_inituR_1 K E)

section
variable {K : PySem.W.Frag} {E : XK} {D : Ends} {p dx a : Addr} {s3 s4 : Option V} {l : V} {ds : List PyData} {H : Hp}
theorem initR_2 {v : V} {vs : List Ve} {dl : PyData} (T : RhC K) (hp : H p = some (.ins (He.ga K "Rhyme") dx [])) (hl : Dp K H l dl) (bad : isBet dl 1 3 = false → E (.ref (He.ga K "BadLeft")) none H)
    (good : ∀ left, l = .int left → 1 ≤ left ∧ left ≤ 3 → t_Rhymeu_inituR_3 K E D [some (.ref p), some v, some l, s3, s4, none, none] H) :
    t_Rhymeu_inituR_2 K E D [some (.ref p), some v, some l, s3, s4, none, none] H := by
  unfold t_Rhymeu_inituR_2
  refine if_go (!isBet dl 1 3) (fun Q q => ?_) (fun z => ?_) (fun z => ?_)
  · refine ⟨_, rfl, ?_⟩
    unfold sp_is_between
    exact ⟨l, dl, 1, 3, rfl, hl, _, rfl, q⟩
  · have z2 : isBet dl 1 3 = false := by simpa using z
    exact bad z2
  · have z2 : isBet dl 1 3 = true := by simpa using z
    cases dl with
    | int i =>
      have e := dp_int hl
      have z3 : (decide ((1 : Int) ≤ i) && decide (i ≤ 3)) = true := z2
      obtain ⟨c1, c2⟩ := Bool.and_eq_true_iff.mp z3
      exact good i e ⟨of_decide_eq_true c1, of_decide_eq_true c2⟩
    | none => cases z2
    | bool x => cases z2
    | str x => cases z2
    | list x => cases z2
    | tuple x => cases z2
    | dict x => cases z2
theorem initR_1 {xs : List V} (hs : SqT K H a xs) (hall : DpAll K H xs ds)
    (bad : ∀ (i : Nat) (d : PyData), ds[i]? = some d → (∀ (j : Nat) (e : PyData), j < i → ds[j]? = some e → isVerse e = true) → isVerse d = false → ∀ (x : Addr) (H' : Hp), H' x = some (.xd [("index", .int (i : Nat))]) → Ex H H' → E (.ref (He.ga K "BadVerses")) (some x) H')
    (good : (∀ d ∈ ds, isVerse d = true) → ∀ (s3 s4 : Option V) (H' : Hp), Ex H H' → t_Rhymeu_inituR_2 K E D [some (.ref p), some (.ref a), some l, s3, s4, none, none] H') :
    t_Rhymeu_inituR_1 K E D [some (.ref p), some (.ref a), some l, s3, s4, none, none] H := by
  unfold t_Rhymeu_inituR_1
  refine ⟨_, rfl, a, xs, rfl, hs, for_it walk_enumT (fun i σ H' => Ex H H' ∧ (∀ (j : Nat) (e : PyData), j < i → ds[j]? = some e → isVerse e = true) ∧ ∃ s3 s4, σ = [some (.ref p), some (.ref a), some l, s3, s4, none, none]) ⟨ex_refl H, fun j e z => absurd z (Nat.not_lt_zero _), s3, s4, rfl⟩ (fun i σ H' _ h => sqt_ex h.1 hs) ?_ ?_⟩
  · rintro i x σ H1 H2 hi ⟨e, hok, u3, u4, rfl⟩ ⟨t, y1, y2, rfl, ht, rfl, h1, h2⟩
    cases h1
    have e2 : Ex H (upd H1 t (.tup [.int (i : Nat), y2])) := ex_trans e (ex_new ht)
    obtain ⟨d, hd1, hd2⟩ := dpa_get' hall h2
    refine ⟨t, _, rfl, SqT.of upd_same, rfl, _, _, rfl, _, _, rfl, rfl, ?_⟩
    unfold t_Rhymeu_inituR_1a_0
    refine if_goH (!isVerse d) (fun Q q => ?_) (fun H' e' z => ?_) (fun H' e' z => ?_)
    · refine ⟨_, rfl, ?_⟩
      unfold sp_is_verse
      refine ⟨y2, d, rfl, dp_ex e2 hd2, fun H' e' => ⟨_, rfl, q H' e'⟩⟩
    · have z2 : isVerse d = false := by simpa using z
      refine ⟨_, rfl, fld_end fun x nx => ?_⟩
      exact bad i d hd1 hok z2 x _ upd_same (ex_trans (ex_trans e2 e') (ex_new nx))
    · have z2 : isVerse d = true := by simpa using z
      refine ⟨ex_trans e2 e', fun j g hj hg => ?_, _, _, rfl⟩
      by_cases c : j = i
      · subst c
        rw [hd1] at hg
        cases hg
        exact z2
      · exact hok j g (by omega) hg
  · rintro σ H1 ⟨e, hok, u3, u4, rfl⟩
    refine good (fun d hd => ?_) u3 u4 H1 e
    obtain ⟨j, hj⟩ := List.mem_iff_getElem?.mp hd
    have hl : xs.length = ds.length := dpa_len hall
    exact hok j d (by rw [hl]; exact (List.getElem?_eq_some_iff.mp hj).1) hj
end
theorem pure_Rhymeu_inituR {K : PySem.W.Frag} (T : RhC K) (ws : List V) (H : Hp) (Q : VK) (E : XK) (h : sp_Rhymeu_inituR K ws H Q E) :
    t_Rhymeu_inituR_0 K E { nx := fun _ H' => Q .non H', rt := Q } (start ["self", "verses", "left", "index", "verse", "way", "count"] ws) H := by
  unfold sp_Rhymeu_inituR at h
  obtain ⟨p, dx, v, l, r, rfl, hp, told, kk⟩ := h
  show t_Rhymeu_inituR_0 K E _ [some (.ref p), some v, some l, none, none, none, none] H
  have raise1 : inW K p H Q E (.bad (-1)) → t_Rhymeu_inituR_0a_0 K E { nx := fun _ H' => Q .non H', rt := Q } [some (.ref p), some v, some l, none, none, none, none] H := fun kv => by
    refine ⟨1, rfl, fld_end fun x nx => ?_⟩
    exact kv x _ upd_same (ex_new nx)
  have tup : ∀ {ds : List PyData}, Dp K H v (.tuple ds) → 1 ≤ ds.length → ds.length ≤ 4 → (∀ a xs, v = .ref a → SqT K H a xs → DpAll K H xs ds → t_Rhymeu_inituR_1 K E { nx := fun _ H' => Q .non H', rt := Q } [some (.ref p), some v, some l, none, none, none, none] H) →
      t_Rhymeu_inituR_0 K E { nx := fun _ H' => Q .non H', rt := Q } [some (.ref p), some v, some l, none, none, none, none] H := fun {ds} hd h1 h4 k => by
    obtain ⟨a, xs, rfl, hs, hall⟩ := dp_tup (id hd)
    have hl := dpa_len hall
    unfold t_Rhymeu_inituR_0
    refine if_go false (fun Q q => or_go false false (fun Q q => ⟨_, rfl, isi_go (Q := fun x H' => ∃ c, x = .bl c ∧ Q (!c) H') hd (show kitB "tuple" "tuple" = some true by decide +kernel) ⟨true, rfl, q⟩⟩) (fun _ Q q => ?_) q) (fun z => nomatch z) (fun _ => k a xs rfl hs hall)
    refine ⟨_, rfl, a, xs, rfl, .inr hs, 1, _, rfl, rfl, _, rfl, ?_⟩
    refine iteT' (decide_eq_true (by omega)) ⟨_, _, rfl, rfl, _, rfl, ?_⟩
    rw [decide_eq_true (show (xs.length : Int) ≤ 4 by omega)]
    exact q
  cases told with
  | odd ht hk =>
    unfold t_Rhymeu_inituR_0
    refine if_go true (fun Q q => or_go true false (fun Q q => ⟨_, rfl, v, .ty "tuple", _, _, false, rfl, .ty _, ht H (ex_refl H), kit_ty hk, false, rfl, q⟩) (fun z => nomatch z) q) (fun _ => raise1 kk) (fun z => nomatch z)
  | @len ds hd hn =>
    obtain ⟨a, xs, rfl, hs, hall⟩ := dp_tup (id hd)
    have hl := dpa_len hall
    unfold t_Rhymeu_inituR_0
    refine if_go true (fun Q q => or_go false true (fun Q q => ⟨_, rfl, isi_go (Q := fun x H' => ∃ c, x = .bl c ∧ Q (!c) H') hd (show kitB "tuple" "tuple" = some true by decide +kernel) ⟨true, rfl, q⟩⟩) (fun _ Q q => ?_) q) (fun _ => raise1 kk) (fun z => nomatch z)
    refine ⟨_, rfl, a, xs, rfl, .inr hs, 1, _, rfl, rfl, _, rfl, ?_⟩
    rcases hn with hn | hn
    · exact iteF' (decide_eq_false (by omega)) ⟨false, rfl, q⟩
    · refine iteT' (decide_eq_true (by omega)) ⟨_, _, rfl, rfl, _, rfl, ?_⟩
      rw [decide_eq_false (show ¬ (xs.length : Int) ≤ 4 by omega)]
      exact q
  | @here ds i d hd h1 h4 ok hi hn =>
    refine tup hd h1 h4 fun a xs e hs hall => ?_
    subst e
    refine initR_1 hs hall (fun j g hg hok hng x H' hx e => ?_) fun hok => ?_
    · have eij : j = i := by
        rcases Nat.lt_trichotomy j i with c | c | c
        · rw [ok j g c hg] at hng
          cases hng
        · exact c
        · rw [hok i d c hi] at hn
          cases hn
      subst eij
      exact kk x H' hx e
    · rw [hok d (List.mem_of_getElem? hi)] at hn
      cases hn
  | @left ds dl hd h1 h4 ok hl hn =>
    refine tup hd h1 h4 fun a xs e hs hall => ?_
    subst e
    refine initR_1 hs hall (fun j g hg _ hng => ?_) fun _ s3 s4 H' e => ?_
    · rw [ok g (List.mem_of_getElem? hg)] at hng
      cases hng
    · refine initR_2 (dx := dx) (vs := []) T (e _ _ hp) (dp_ex e hl) (fun _ => kk H' e) fun left el hb => ?_
      subst el
      cases hl
      have z : isBet (.int left) 1 3 = true := by
        show (decide (1 ≤ left) && decide (left ≤ 3)) = true
        rw [decide_eq_true hb.1, decide_eq_true hb.2]
        rfl
      rw [z] at hn
      cases hn
  | @fine vs left hd hl ok =>
    subst hl
    have l1 := ok.l1
    have l4 := ok.l4
    refine tup (ds := vs.map vD) hd (by rw [List.length_map]; exact l1) (by rw [List.length_map]; exact l4) fun a xs e hs hall => ?_
    subst e
    refine initR_1 hs hall (fun j g hg _ hng => ?_) fun _ s3 s4 H' e => ?_
    · obtain ⟨u, hu, rfl⟩ := List.mem_map.mp (List.mem_of_getElem? hg)
      rw [isVerse_vD (ok.cnt u hu)] at hng
      cases hng
    · refine initR_2 (dx := dx) (vs := vs) T (e _ _ hp) (.int left) (fun z => ?_) fun m em hb => ?_
      · have z2 : (decide (1 ≤ left) && decide (left ≤ 3)) = false := z
        rw [decide_eq_true ok.lf.1, decide_eq_true ok.lf.2] at z2
        cases z2
      · show t_Rhymeu_initu_3 K E _ [some (.ref p), some (.ref a), some (.int left), s3, s4, none, none] H'
        refine init_3 (E := E) T (e _ _ hp) (dp_ex e hd) l4 fun σ' H2 R f => kk H2 R fun b o hb nb => f b o (e b o hb) nb

end Z
namespace Z
open PySem PySem.Spec PyProof.Rows L2
local macro_rules | `(tactic| walk_at "look") => `(tactic| first | assumption | exact upd_same | exact SqL.of (by assumption) | exact SqT.of (by assumption) | exact SqL.of upd_same | exact SqT.of upd_same)
local macro_rules | `(tactic| walk_at "at") => `(tactic| first | exact at0 | exact at1 | exact at2 | exact at3 | exact ix0 | exact ix1 | assumption | exact atI_nat (by rfl))
local macro_rules | `(tactic| walk_at "sd") => `(tactic| ((try dsimp only); first | assumption | omega | (unfold CMul; omega) | (unfold CDiv; omega) | (unfold CPow; decide) | decide))
local macro_rules | `(tactic| walk_at "st") => `(tactic| first
  | (refine ⟨_, rfl, ?_⟩)
  | (refine ⟨_, _, rfl, rfl, ?_⟩)
  | (refine ⟨rfl, ?_⟩)
  | (refine .inl ⟨_, rfl, ?_⟩)
  | (refine ⟨_, _, _, _, rfl, rfl, (by walk_at "look"), (by walk_at "at"), ?_⟩)
  | (refine ⟨_, _, rfl, .inl (by walk_at "look"), ?_⟩)
  | (refine And.intro (by walk_at "sd") ?_)
  | fail "no step")
local macro_rules | `(tactic| walk_at "go") => `(tactic| repeat' (walk_at "st"))
local macro_rules | `(tactic| walk_at "ans") => `(tactic| (intro Q q; (repeat' (walk_at "st")); exact q))

/-! ### == of rhymes -/
theorem eqvAll_vD : ∀ vs us : List Ve, PyData.eqvAll (vs.map vD) (us.map vD) = decide (vs = us)
  | [], [] => rfl
  | [], _ :: _ => rfl
  | _ :: _, [] => rfl
  | v :: vs, u :: us => by
    have ih := eqvAll_vD vs us
    show (PyData.eqv (vD v) (vD u) && PyData.eqvAll (vs.map vD) (us.map vD)) = _
    rw [ih]
    have e : PyData.eqv (vD v) (vD u) = decide (v = u) := by
      show ((wayS v.1 == wayS u.1) && ((v.2 == u.2) && true)) = _
      obtain ⟨a, b⟩ := v
      obtain ⟨c, d⟩ := u
      rw [Bool.and_true]
      have ib : ∀ x y : Int, (x == y) = decide (x = y) := fun x y => by
        by_cases h : x = y
        · rw [h, decide_eq_true rfl]
          exact beq_self_eq_true y
        · rw [decide_eq_false h]
          exact beq_false_of_ne h
      have wn : (("on" : Str) == "back") = false := by decide +kernel
      have nw : (("back" : Str) == "on") = false := by decide +kernel
      have ww : ∀ x : Str, (x == x) = true := fun x => beq_self_eq_true x
      rw [ib]
      cases a <;> cases c
      · show ((("back" : Str) == "back") && _) = _
        rw [ww]
        simp
      · show ((("back" : Str) == "on") && _) = _
        rw [nw]
        simp
      · show ((("on" : Str) == "back") && _) = _
        rw [wn]
        simp
      · show ((("on" : Str) == "on") && _) = _
        rw [ww]
        simp
    rw [e]
    by_cases h1 : v = u <;> by_cases h2 : vs = us <;> simp [h1, h2]
theorem eqv_vsD (vs us : List Ve) : PyData.eqv (vsD vs) (vsD us) = decide (vs = us) := eqvAll_vD vs us
theorem lay_vD : ∀ vs : List Ve, PyData.canLayAll0 (vs.map vD) = true ∧ PyData.depthAll (vs.map vD) ≤ 1
  | [] => ⟨rfl, Nat.zero_le _⟩
  | v :: vs => by
    obtain ⟨h1, h2⟩ := lay_vD vs
    constructor
    · show (PyData.canLay0 (vD v) && PyData.canLayAll0 (vs.map vD)) = true
      rw [h1, Bool.and_true]
      obtain ⟨a, b⟩ := v
      cases a
      · exact (by decide +kernel : PyData.canLayAll0 [.str "back", .int 0] = true)
      · exact (by decide +kernel : PyData.canLayAll0 [.str "on", .int 0] = true)
    · show max (PyData.depth (vD v)) (PyData.depthAll (vs.map vD)) ≤ 1
      have : PyData.depth (vD v) = 1 := rfl
      omega
theorem shaped_vsD (vs : List Ve) : SeqAt.shaped (vsD vs) = true := by
  obtain ⟨h1, h2⟩ := lay_vD vs
  show (PyData.canLayAll0 (vs.map vD) && decide (PyData.depthAll (vs.map vD) + 1 ≤ 64)) = true
  rw [h1, decide_eq_true (by omega)]
  rfl
@[irreducible] def sp_Rhymeu_equ (K : PySem.W.Frag) : Sp := fun ws H Q _ => ∃ (a b : Addr) (vs us : List Ve) (l m : Int), ws = [.ref a, .ref b] ∧ RhAt K H a vs l ∧ RhAt K H b us m ∧ Q (.bl (decide (vs = us) && decide (l = m))) H
def t_Rhymeu_equ_0 (K : PySem.W.Frag) (E : XK) : TS := (tRet (tAndV (tCB (rIsi K) (tCons (tVar 1) (tCons (tC (.ref (He.ga K "Rhyme"))) tNil))) (tAndV (tOp (rEqD K) (tFld K (tVar 0) "own_verses") (tFld K (tVar 1) "own_verses")) (tOp rEq (tFld K (tVar 0) "own_left") (tFld K (tVar 1) "own_left")))))

theorem pure_Rhymeu_equ {K : PySem.W.Frag} (T : RhC K) (TI : C8.InsC K (He.ga K "Rhyme")) (ws : List V) (H : Hp) (Q : VK) (E : XK) (h : sp_Rhymeu_equ K ws H Q E) :
    t_Rhymeu_equ_0 K E { nx := fun _ H' => Q .non H', rt := Q } (start ["self", "other"] ws) H := by
  unfold sp_Rhymeu_equ at h
  obtain ⟨a, b, vs, us, l, m, rfl, ⟨dx, tv, tr, h1, h2, h3⟩, ⟨dy, uv, ur, g1, g2, g3⟩, k⟩ := h
  show t_Rhymeu_equ_0 K E _ [some (.ref a), some (.ref b)] H
  refine andV_go true (decide (vs = us) && decide (l = m)) (fun Q q => ?_) (fun _ Q q => andV_go (decide (vs = us)) (decide (l = m)) (fun Q q => ?_) (fun _ Q q => ?_) q) k
  · exact ⟨_, rfl, .ref b, _, _, _, true, rfl, .own _, .base (TyOf.ins g1 TI.cl TI.ha TI.hn TI.htk TI.hm), TI.me, q⟩
  · refine ⟨_, rfl, a, _, dx, _, _, rfl, h1, T.cl, T.nv, rhF_v _ _ _, _, rfl, b, _, dy, _, _, rfl, g1, T.cl, T.nv, rhF_v _ _ _, _, _, h2, g2, shaped_vsD vs, shaped_vsD us, ?_⟩
    rw [eqv_vsD]
    exact q
  · refine ⟨_, rfl, a, _, dx, _, _, rfl, h1, T.cl, T.nl, rhF_l _ _ _, _, rfl, b, _, dy, _, _, rfl, g1, T.cl, T.nl, rhF_l _ _ _, rfl, ?_⟩
    rw [d_int]
    exact q
/-! ### the law's source -/
@[irreducible] def sp_law_random (K : PySem.W.Frag) : Sp := fun ws H Q _ => ∃ (a : Addr) (ns : List Int) (z : Int), ws = [.ref a, .int z] ∧ SqL K H a (ns.map V.int) ∧ ns.length ≤ 63 ∧ 0 ≤ z ∧ z < 2147483647 ∧
  ∀ (d : Addr) (H' : Hp), H d = none → Ex H H' → DSt H' d → Q (.ref d) H'
def t_law_random_1a_0 (K : PySem.W.Frag) (E : XK) : TS := (tAsg (tOp oMod (tCB cInt (tCons (tOp oAdd (tOp oMul (tVar 2) (tC (.int 31))) (tCB cAbs (tCons (tVar 3) tNil))) tNil)) (tC (.int 2147483647))) (gName 2))

def t_law_random_2 (K : PySem.W.Frag) (E : XK) : TS := (tRet (tOp rCat (tLst (tCons (tVar 2) (tCons (tC (.int 0)) tNil))) (tLc (iList K (tVar 0)) (gName 3) (tTest (tOp oGe (tVar 3) (tOp oPow (tC (.int 10)) (tC (.int 18))))) (tVar 3) [3])))

@[irreducible] def t_law_random_1 (K : PySem.W.Frag) (E : XK) : TS := tSeq (tFor (iList K (tVar 0)) (gName 3)
    (t_law_random_1a_0 K E)) (t_law_random_2 K E)

def t_law_random_0 (K : PySem.W.Frag) (E : XK) : TS := tSeq (tAsg (tVar 1) (gName 2)) (t_law_random_1 K E)

theorem random_2 {K : PySem.W.Frag} {E : XK} {D : Ends} {a : Addr} {ns : List Int} {z s : Int} {u : Option V} {H : Hp} (hS : SqL K H a (ns.map V.int)) (hn : ns.length ≤ 63) (h0 : 0 ≤ s) (h1 : s < 2147483647)
    (k : ∀ (d : Addr) (H' : Hp), H d = none → Ex H H' → DSt H' d → D.rt (.ref d) H') : t_law_random_2 K E D [some (.ref a), some (.int z), some (.int s), u] H := by
  refine ⟨_, rfl, (by show 2 ≤ sizeLine; decide), fun p hp => ?_⟩
  have e1 : Ex H (upd H p (.lst [.int s, .int 0])) := ex_new hp
  refine ⟨_, rfl, a, rfl, ⟨_, sq_ex e1 hS⟩, fun q hq => lc_pure walk_list (fun i => decide ((10 : Int) ^ 18 ≤ ns.getD i 0)) (fun i => .int (ns.getD i 0)) hq (by rw [List.length_map]; exact Nat.lt_of_le_of_lt hn (by decide)) (fun H3 e => sq_ex (ex_trans e1 e) hS) ?_ ?_⟩
  · rintro i x H3 H4 hi e ⟨rfl, hx⟩ Q Zf q1 q2
    rw [List.getElem?_map] at hx
    have hi2 : i < ns.length := by
      rw [List.length_map] at hi
      exact hi
    rw [List.getElem?_eq_getElem hi2] at hx
    have ex : V.int ns[i] = x := Option.some.inj hx
    subst ex
    have eg : ns.getD i 0 = ns[i] := by
      rw [List.getD_eq_getElem?_getD, List.getElem?_eq_getElem hi2]
      rfl
    rw [eg] at q1 q2
    refine ⟨rfl, ?_⟩
    refine ⟨_, rfl, 10, 18, rfl, rfl, ⟨by decide, by decide, by decide⟩, _, _, rfl, rfl, _, rfl, ?_⟩
    by_cases c : (10 : Int) ^ 18 ≤ ns[i]
    · refine iteT' (decide_eq_true c) ⟨_, rfl, q1 (decide_eq_true c) _ (ex_refl _)⟩
    · refine iteF' (decide_eq_false c) (q2 (decide_eq_false c) _ (ex_refl _))
  · intro H3 e hq3
    obtain ⟨r, hr, hr2, hr3⟩ : ∃ r : List Int, ((List.range (ns.map V.int).length).filter (fun i => decide ((10 : Int) ^ 18 ≤ ns.getD i 0))).map (fun i => V.int (ns.getD i 0)) = r.map V.int ∧ (∀ y ∈ r, 0 ≤ y) ∧ r.length ≤ 63 := by
      refine ⟨((List.range (ns.map V.int).length).filter (fun i => decide ((10 : Int) ^ 18 ≤ ns.getD i 0))).map (fun i => ns.getD i 0), ?_, ?_, ?_⟩
      · rw [List.map_map]
        rfl
      · intro y hy
        obtain ⟨i, hi, rfl⟩ := List.mem_map.mp hy
        have := of_decide_eq_true (List.mem_filter.mp hi).2
        omega
      · rw [List.length_map]
        refine Nat.le_trans (List.length_filter_le ..) ?_
        rw [List.length_range, List.length_map]
        exact hn
    rw [hr] at hq3
    refine ⟨p, q, _, _, rfl, rfl, e _ _ upd_same, hq3, ?_, fun d hd => ?_⟩
    · rw [List.length_map]
      refine Nat.le_trans (Nat.add_le_add_left hr3 _) (by show 2 + 63 ≤ sizeLine; decide)
    · refine k d _ (ex_free (ex_trans e1 e) hd) (ex_trans (ex_trans e1 e) (ex_new hd)) ⟨s, 0, r, upd_same, h0, h1, Int.le_refl 0, hr2, hr3⟩
theorem pure_law_random {K : PySem.W.Frag} (ws : List V) (H : Hp) (Q : VK) (E : XK) (h : sp_law_random K ws H Q E) :
    t_law_random_0 K E { nx := fun _ H' => Q .non H', rt := Q } (start ["_law_script", "_law_salt", "_law_seed", "_law_cell"] ws) H := by
  unfold sp_law_random at h
  obtain ⟨a, ns, z, rfl, hS, hn, z0, z1, k⟩ := h
  refine ⟨_, rfl, ?_⟩
  show t_law_random_1 K E _ [some (.ref a), some (.int z), some (.int z), none] H
  unfold t_law_random_1
  refine ⟨_, rfl, a, rfl, ⟨_, hS⟩, for_it walk_list (fun i σ H' => H' = H ∧ ∃ (s : Int) (u : Option V), σ = [some (.ref a), some (.int z), some (.int s), u] ∧ 0 ≤ s ∧ s < 2147483647) ⟨rfl, z, none, rfl, z0, z1⟩ (fun i σ H' _ h => by rw [h.1]; exact hS) ?_ ?_⟩
  · rintro i x σ H1 H2 hi ⟨rfl, s, u, rfl, h0, h1⟩ ⟨rfl, hx⟩
    rw [List.getElem?_map] at hx
    have hi2 : i < ns.length := by
      rw [List.length_map] at hi
      exact hi
    rw [List.getElem?_eq_getElem hi2] at hx
    have ex : V.int ns[i] = x := Option.some.inj hx
    subst ex
    refine ⟨_, rfl, s, 31, rfl, rfl, .inr ⟨by decide, by decide⟩, _, rfl, _, rfl, _, _, rfl, rfl, .inl ⟨_, rfl, ?_⟩⟩
    refine ⟨_, _, rfl, rfl, (by show (0 : Int) < 2147483647; decide), ?_⟩
    exact ⟨rfl, _, _, rfl, Int.emod_nonneg _ (by decide), Int.emod_lt_of_pos _ (by decide)⟩
  · rintro σ H1 ⟨rfl, s, u, rfl, h0, h1⟩
    exact random_2 (E := E) hS hn h0 h1 k

/-! ### a drawn rhyme -/
@[irreducible] def sp_law_drawn (K : PySem.W.Frag) : Sp := fun ws H Q _ => ∃ (d : Addr), ws = [.ref d] ∧ DSt H d ∧
  ∀ (x : V) (vs : List Ve) (left : Int) (H' : Hp), RhOk vs left → Dp K H' x (tD vs left) → DSt H' d → Fx d H H' → Q x H'
def t_law_drawn_1a_0 (K : PySem.W.Frag) (E : XK) : TS := (tDrop (tBM K "list" rAppend (tVar 1) (tCons (tTup (tCons (tCall (sp_law_pick K) [] E0 (tCons (tVar 0) (tCons (tLst (tCons (tC (.str "on")) (tCons (tC (.str "on")) (tCons (tC (.str "back")) tNil)))) tNil))) (tCons (tOp oAdd (tC (.int 1)) (tCall (sp_law_below K) [] E0 (tCons (tVar 0) (tCons (tC (.int 6)) tNil)))) tNil))) tNil)))

def t_law_drawn_2 (K : PySem.W.Frag) (E : XK) : TS := (tRet (tTup (tCons (tCB (cTup K) (tCons (tVar 1) tNil)) (tCons (tOp oAdd (tC (.int 1)) (tCall (sp_law_below K) [] E0 (tCons (tVar 0) (tCons (tC (.int 3)) tNil)))) tNil))))

@[irreducible] def t_law_drawn_1 (K : PySem.W.Frag) (E : XK) : TS := tSeq (tFor (iRng1 (tCons (tOp oAdd (tC (.int 1)) (tCall (sp_law_below K) [] E0 (tCons (tVar 0) (tCons (tC (.int 4)) tNil)))) tNil)) (gName 2)
    (t_law_drawn_1a_0 K E)) (t_law_drawn_2 K E)

def t_law_drawn_0 (K : PySem.W.Frag) (E : XK) : TS := tSeq (tAsg (tLst tNil) (gName 1)) (t_law_drawn_1 K E)

theorem dst_l {H : Hp} {d : Addr} (h : DSt H d) : ∃ zs, H d = some (.lst zs) := by
  obtain ⟨s, x, r, hd, _⟩ := h
  exact ⟨_, hd⟩
theorem dst_noT {H : Hp} {d : Addr} (h : DSt H d) : NoT (H d) := by
  obtain ⟨zs, hd⟩ := dst_l h
  exact noT_l hd
theorem dst_ex {H H' : Hp} {d : Addr} (e : Ex H H') (h : DSt H d) : DSt H' d := by
  obtain ⟨s, x, r, hd, hr⟩ := h
  exact ⟨s, x, r, e _ _ hd, hr⟩
/-- what stands of the drawn verses: the list at l -/
structure VsL (K : PySem.W.Frag) (H : Hp) (l : Addr) (vs : List Ve) : Prop where
  ex : ∃ xs, H l = some (.lst xs) ∧ DpAll K H xs (vs.map vD)
  cnt : ∀ v ∈ vs, 1 ≤ v.2 ∧ v.2 ≤ 6
theorem vsD_flats (vs : List Ve) : flatDs (vs.map vD) = true := vsD_flat vs
theorem drawn_turn {K : PySem.W.Frag} {E : XK} {D : Ends} {d l : Addr} {u : Option V} {vs : List Ve} {H : Hp} (hD : DSt H d) (nl : l ≠ d) (hv : VsL K H l vs) (hn : vs.length ≤ 10)
    (k : ∀ (v : Ve) (H' : Hp), VsL K H' l (vs ++ [v]) → DSt H' d → (∀ b o, b ≠ d → b ≠ l → H b = some o → H' b = some o) → D.nx [some (.ref d), some (.ref l), u] H') :
    t_law_drawn_1a_0 K E D [some (.ref d), some (.ref l), u] H := by
  obtain ⟨⟨xs, hl, hall⟩, hc⟩ := hv
  refine ⟨_, rfl, .inl ⟨rfl, _, SqL.of hl⟩, _, rfl, (by show 3 ≤ sizeLine; decide), fun p hp => ?_⟩
  have np : d ≠ p := by
    obtain ⟨zs, hd⟩ := dst_l hD
    exact ne_of_none hd hp
  have e1 := ex_new (o := .lst [.str "on", .str "on", .str "back"]) hp
  unfold sp_law_pick
  refine ⟨d, p, [.str "on", .str "on", .str "back"], rfl, dst_ex e1 hD, upd_same, np.symm, by simp, by decide, fun i w H2 hw hD2 f2 => ?_⟩
  obtain ⟨b, rfl⟩ : ∃ b, w = .str (wayS b) := by
    match i, hw with
    | 0, h => exact ⟨true, (Option.some.inj h).symm⟩
    | 1, h => exact ⟨true, (Option.some.inj h).symm⟩
    | 2, h => exact ⟨false, (Option.some.inj h).symm⟩
    | i + 3, h => simp at h
  refine ⟨_, rfl, ?_⟩
  unfold sp_law_below
  refine ⟨d, 6, rfl, hD2, by decide, by decide, fun r H3 r0 r6 hD3 f3 => ?_⟩
  refine ⟨1, r, rfl, rfl, (by show 2 ≤ sizeLine; decide), fun t ht => ?_⟩
  have F : Fx d H H3 := fx_trans (fx_ex e1) (fx_trans f2 f3)
  have hl3 : H3 l = some (.lst xs) := F l _ nl hl
  have e4 := ex_new (o := .tup [.str (wayS b), .int (1 + r)]) ht
  have hl4 := e4 _ _ hl3
  have hall4 : DpAll K (upd H3 t (.tup [.str (wayS b), .int (1 + r)])) xs (vs.map vD) := dpa_ex e4 (dpa_fxN (dst_noT hD) F (vsD_flats vs) hall)
  have ntl : t ≠ l := (ne_of_none hl3 ht).symm
  refine ⟨l, xs, _, rfl, rfl, hl4, ?_, ?_⟩
  · have := dpa_len hall
    rw [List.length_map] at this
    rw [this]
    exact Nat.lt_of_le_of_lt hn (by decide)
  · have hT : SqT K (upd (upd H3 t (.tup [.str (wayS b), .int (1 + r)])) l (.lst (xs ++ [.ref t]))) t [.str (wayS b), .int (1 + r)] := SqT.of (by rw [upd_ne ntl]; exact upd_same)
    refine k (b, 1 + r) _ ⟨⟨_, upd_same, ?_⟩, ?_⟩ ?_ ?_
    · rw [List.map_append]
      exact dpa_snoc (.tup hT (.cons (.str _) (.cons (.int _) .nil))) (dpa_fxN (noT_l hl4) fx_upd (vsD_flats vs) hall4)
    · intro v hm
      rcases List.mem_append.mp hm with hm | hm
      · exact hc v hm
      · rw [List.mem_singleton.mp hm]
        exact ⟨by show 1 ≤ 1 + r; omega, by show 1 + r ≤ 6; omega⟩
    · obtain ⟨s, x, r, hd, hr⟩ := dst_ex e4 hD3
      exact ⟨s, x, r, by rw [upd_ne nl.symm]; exact hd, hr⟩
    · intro b2 o nb nl2 hb
      rw [upd_ne nl2]
      exact e4 _ _ (F b2 o nb hb)
theorem pure_law_drawn {K : PySem.W.Frag} (ws : List V) (H : Hp) (Q : VK) (E : XK) (h : sp_law_drawn K ws H Q E) : t_law_drawn_0 K E { nx := fun _ H' => Q .non H', rt := Q } (start ["_law_d", "_law_verses", "_law_k"] ws) H := by
  unfold sp_law_drawn at h
  obtain ⟨d, rfl, hD, k⟩ := h
  refine ⟨Nat.zero_le _, fun l hl => ?_⟩
  show t_law_drawn_1 K E _ [some (.ref d), some (.ref l), none] _
  have nl : l ≠ d := by
    obtain ⟨zs, hd⟩ := dst_l hD
    exact (ne_of_none hd hl).symm
  have e1 := ex_new (o := .lst []) hl
  unfold t_law_drawn_1
  refine ⟨_, rfl, ?_⟩
  unfold sp_law_below
  refine ⟨d, 4, rfl, dst_ex e1 hD, by decide, by decide, fun r H1 r0 r4 hD1 f1 => ?_⟩
  have hl1 : H1 l = some (.lst []) := f1 l _ nl upd_same
  have fr1 : ∀ b o, b ≠ d → b ≠ l → H b = some o → H1 b = some o := fun b o nb _ hb => f1 b o nb (e1 b o hb)
  refine ⟨1, r, rfl, rfl, 1 + r, rfl, by omega, by omega, for_range (fun i σ H' => ∃ (vs : List Ve) (u : Option V), σ = [some (.ref d), some (.ref l), u] ∧ VsL K H' l vs ∧ DSt H' d ∧ vs.length = i ∧ (∀ b o, b ≠ d → b ≠ l → H b = some o → H' b = some o))
    ⟨[], none, rfl, ⟨⟨[], hl1, .nil⟩, fun v hm => nomatch hm⟩, hD1, rfl, fr1⟩ ?_ ?_⟩
  · rintro i σ H2 hi ⟨vs, u, rfl, hv, hD2, hlen, fr⟩
    refine drawn_turn (E := E) hD2 nl hv (by omega) fun v H3 hv3 hD3 fr3 => ?_
    refine ⟨vs ++ [v], _, rfl, hv3, hD3, by rw [List.length_append, hlen]; rfl, fun b o nb nl2 hb => fr3 b o nb nl2 (fr b o nb nl2 hb)⟩
  · rintro σ H2 ⟨vs, u, rfl, ⟨⟨xs, hl2, hall⟩, hc⟩, hD2, hlen, fr⟩
    refine ⟨_, rfl, l, xs, rfl, .inl ⟨SqL.of hl2, fun t ht => ?_⟩⟩
    have e2 := ex_new (o := .tup xs) ht
    refine ⟨_, rfl, ?_⟩
    unfold sp_law_below
    refine ⟨d, 3, rfl, dst_ex e2 hD2, by decide, by decide, fun r2 H3 q0 q3 hD3 f3 => ?_⟩
    refine ⟨1, r2, rfl, rfl, (by show 2 ≤ sizeLine; decide), fun t2 ht2 => ?_⟩
    have e4 := ex_new (o := .tup [.ref t, .int (1 + r2)]) ht2
    have dv : Dp K (upd H2 t (.tup xs)) (.ref t) (vsD vs) := .tup (SqT.of upd_same) (dpa_ex e2 hall)
    have dv3 := dp_fxN (dst_noT (dst_ex e2 hD2)) f3 (vsD_flat vs) dv
    refine k (.ref t2) vs (1 + r2) _ ⟨by omega, by omega, hc, by omega, by omega⟩ (.tup (SqT.of upd_same) (.cons (dp_ex e4 dv3) (.cons (.int _) .nil))) (dst_ex e4 hD3) fun b o nb hb => ?_
    have nbl : b ≠ l := fun z => by
      rw [z, hl] at hb
      cases hb
    exact e4 _ _ (f3 b o nb (e2 _ _ (fr b o nb nbl hb)))

end Z
namespace Z
open PySem PySem.Spec PyProof.Rows L2
local macro_rules | `(tactic| walk_at "look") => `(tactic| first | assumption | exact upd_same | exact SqL.of (by assumption) | exact SqT.of (by assumption) | exact SqL.of upd_same | exact SqT.of upd_same)
local macro_rules | `(tactic| walk_at "at") => `(tactic| first | exact at0 | exact at1 | exact at2 | exact at3 | exact ix0 | exact ix1 | assumption | exact atI_nat (by rfl))
local macro_rules | `(tactic| walk_at "sd") => `(tactic| ((try dsimp only); first | assumption | omega | (unfold CMul; omega) | (unfold CDiv; omega) | (unfold CPow; decide) | decide))
local macro_rules | `(tactic| walk_at "st") => `(tactic| first
  | (refine ⟨_, rfl, ?_⟩)
  | (refine ⟨_, _, rfl, rfl, ?_⟩)
  | (refine ⟨rfl, ?_⟩)
  | (refine .inl ⟨_, rfl, ?_⟩)
  | (refine ⟨_, _, _, _, rfl, rfl, (by walk_at "look"), (by walk_at "at"), ?_⟩)
  | (refine ⟨_, _, rfl, .inl (by walk_at "look"), ?_⟩)
  | (refine And.intro (by walk_at "sd") ?_)
  | fail "no step")
local macro_rules | `(tactic| walk_at "go") => `(tactic| repeat' (walk_at "st"))
local macro_rules | `(tactic| walk_at "ans") => `(tactic| (intro Q q; (repeat' (walk_at "st")); exact q))

/-! ### x[i] of a list or a tuple -/
def rIxA (K : PySem.W.Frag) : R2 := fun x y H Q => rIxL K x y H Q ∨ rIxT K x y H Q
theorem ix_any {X : Cx} : IxR X (rIxA X.K) := by
  intro value slice pins s σ H x y v u Q I rx ry h hs
  rcases h with h | h
  · exact ix_list value slice pins s σ H x y v u Q I rx ry h hs
  · exact ix_tup value slice pins s σ H x y v u Q I rx ry h hs
/-! ### the law's own equality -/
mutual
def same : PyData → PyData → Bool
  | .none, .none => true
  | .bool a, .bool b => decide (a = b)
  | .int a, .int b => decide (a = b)
  | .str a, .str b => decide (a = b)
  | .list a, .list b => sameA a b
  | .tuple a, .tuple b => sameA a b
  | _, _ => false
def sameA : List PyData → List PyData → Bool
  | [], [] => true
  | x :: xs, y :: ys => same x y && sameA xs ys
  | _, _ => false
end
/-- no dict, so deep -/
def okD : Nat → PyData → Prop
  | _, .none => True
  | _, .bool _ => True
  | _, .int _ => True
  | _, .str _ => True
  | 0, _ => False
  | n + 1, .list ds => ds.length ≤ 10000 ∧ ∀ d ∈ ds, okD n d
  | n + 1, .tuple ds => ds.length ≤ 10000 ∧ ∀ d ∈ ds, okD n d
  | _ + 1, .dict _ => False
/-- n: how deep the second one is -/
def spEq : Nat → PySem.W.Frag → Sp
  | 0, _ => fun _ _ _ _ => False
  | n + 1, K => fun ws H Q _ => ∃ (x y : V) (d e : PyData), ws = [x, y] ∧ Dp K H x d ∧ Dp K H y e ∧ okD n e ∧ ∀ H', Ex H H' → Q (.bl (same d e)) H'
@[irreducible] def sp_law_equal (n : Nat) (K : PySem.W.Frag) : Sp := spEq n K
def t_law_equal_0a_0 (K : PySem.W.Frag) (n : Nat) (E : XK) : TS := (tRet (tOp oIsN (tVar 0) (tC .non)))

def t_law_equal_1a_0 (K : PySem.W.Frag) (n : Nat) (E : XK) : TS := (tRet (tAndV (tCB (rIsi K) (tCons (tVar 0) (tCons (tC (.ty "bool")) tNil))) (tOp rEq (tVar 0) (tVar 1))))

def t_law_equal_2a_0 (K : PySem.W.Frag) (n : Nat) (E : XK) : TS := (tRet (tAndV (tCB (rIsi K) (tCons (tVar 0) (tCons (tC (.ty "int")) tNil))) (tAndV (tNotV (tCB (rIsi K) (tCons (tVar 0) (tCons (tC (.ty "bool")) tNil)))) (tOp rEq (tVar 0) (tVar 1)))))

def t_law_equal_3a_0 (K : PySem.W.Frag) (n : Nat) (E : XK) : TS := (tRet (tAndV (tCB (rIsi K) (tCons (tVar 0) (tCons (tC (.ty "str")) tNil))) (tOp rEq (tVar 0) (tVar 1))))

def t_law_equal_4a_0a_0 (K : PySem.W.Frag) (n : Nat) (E : XK) : TS := (tRet (tC (.bl false)))

def t_law_equal_4a_1 (K : PySem.W.Frag) (n : Nat) (E : XK) : TS := (tRet (tCB (rAll K) (tCons (tLc (iList K (tCB (cLst K) (tCons (tVar 0) tNil))) (gName 2) tYes (tCall (sp_law_equal n K) [] E0 (tCons (tOp (rIxL K) (tVar 0) (tVar 2)) (tCons (tOp (rIxL K) (tVar 1) (tVar 2)) tNil))) [2]) tNil)))

@[irreducible] def t_law_equal_4a_0 (K : PySem.W.Frag) (n : Nat) (E : XK) : TS := tSeq (tIfS (tOr (tNot (tB (tCB (rIsi K) (tCons (tVar 0) (tCons (tC (.ty "dict")) tNil))))) (tTest (tOp rNe (tCB (cLst K) (tCons (tVar 0) tNil)) (tCB (rSorted K) (tCons (tCB (cLst K) (tCons (tVar 1) tNil)) tNil)))))
    (t_law_equal_4a_0a_0 K n E) tNext) (t_law_equal_4a_1 K n E)

def t_law_equal_5a_0 (K : PySem.W.Frag) (n : Nat) (E : XK) : TS := (tRet (tC (.bl false)))

def t_law_equal_6a_0 (K : PySem.W.Frag) (n : Nat) (E : XK) : TS := (tRet (tC (.bl false)))

def t_law_equal_7a_0 (K : PySem.W.Frag) (n : Nat) (E : XK) : TS := (tRet (tC (.bl false)))

def t_law_equal_8 (K : PySem.W.Frag) (n : Nat) (E : XK) : TS := (tRet (tCB (rAll K) (tCons (tLc (iRng1 (tCons (tCB (cLen K) (tCons (tVar 1) tNil)) tNil)) (gName 3) tYes (tCall (sp_law_equal n K) [] E0 (tCons (tOp (rIxA K) (tVar 0) (tVar 3)) (tCons (tOp (rIxA K) (tVar 1) (tVar 3)) tNil))) [3]) tNil)))

@[irreducible] def t_law_equal_7 (K : PySem.W.Frag) (n : Nat) (E : XK) : TS := tSeq (tIfS (tTest (tOp rNe (tCB (cLen K) (tCons (tVar 0) tNil)) (tCB (cLen K) (tCons (tVar 1) tNil))))
    (t_law_equal_7a_0 K n E) tNext) (t_law_equal_8 K n E)

@[irreducible] def t_law_equal_6 (K : PySem.W.Frag) (n : Nat) (E : XK) : TS := tSeq (tIfS (tTest (tOp rNe (tCB (rIsi K) (tCons (tVar 1) (tCons (tC (.ty "list")) tNil))) (tCB (rIsi K) (tCons (tVar 0) (tCons (tC (.ty "list")) tNil)))))
    (t_law_equal_6a_0 K n E) tNext) (t_law_equal_7 K n E)

@[irreducible] def t_law_equal_5 (K : PySem.W.Frag) (n : Nat) (E : XK) : TS := tSeq (tIfS (tTest (tOp rNe (tCB (rIsi K) (tCons (tVar 1) (tCons (tC (.ty "tuple")) tNil))) (tCB (rIsi K) (tCons (tVar 0) (tCons (tC (.ty "tuple")) tNil)))))
    (t_law_equal_5a_0 K n E) tNext) (t_law_equal_6 K n E)

@[irreducible] def t_law_equal_4 (K : PySem.W.Frag) (n : Nat) (E : XK) : TS := tSeq (tIfS (tB (tCB (rIsi K) (tCons (tVar 1) (tCons (tC (.ty "dict")) tNil))))
    (t_law_equal_4a_0 K n E) tNext) (t_law_equal_5 K n E)

@[irreducible] def t_law_equal_3 (K : PySem.W.Frag) (n : Nat) (E : XK) : TS := tSeq (tIfS (tB (tCB (rIsi K) (tCons (tVar 1) (tCons (tC (.ty "str")) tNil))))
    (t_law_equal_3a_0 K n E) tNext) (t_law_equal_4 K n E)

@[irreducible] def t_law_equal_2 (K : PySem.W.Frag) (n : Nat) (E : XK) : TS := tSeq (tIfS (tB (tCB (rIsi K) (tCons (tVar 1) (tCons (tC (.ty "int")) tNil))))
    (t_law_equal_2a_0 K n E) tNext) (t_law_equal_3 K n E)

@[irreducible] def t_law_equal_1 (K : PySem.W.Frag) (n : Nat) (E : XK) : TS := tSeq (tIfS (tB (tCB (rIsi K) (tCons (tVar 1) (tCons (tC (.ty "bool")) tNil))))
    (t_law_equal_1a_0 K n E) tNext) (t_law_equal_2 K n E)

@[irreducible] def t_law_equal_0 (K : PySem.W.Frag) (n : Nat) (E : XK) : TS := tSeq (tIfS (tTest (tOp oIsN (tVar 1) (tC .non)))
    (t_law_equal_0a_0 K n E) tNext) (t_law_equal_1 K n E)

theorem sameA_len : ∀ {a b : List PyData}, a.length ≠ b.length → sameA a b = false
  | [], [], h => absurd rfl h
  | [], _ :: _, _ => rfl
  | _ :: _, [], _ => rfl
  | x :: a, y :: b, h => by
    show (same x y && sameA a b) = false
    rw [sameA_len (fun z => h (congrArg (· + 1) z)), Bool.and_false]
theorem sameA_all : ∀ {a b : List PyData}, a.length = b.length → sameA a b = ((List.range b.length).map fun i => same (a.getD i .none) (b.getD i .none)).all id
  | [], [], _ => rfl
  | x :: a, y :: b, h => by
    have h2 : a.length = b.length := Nat.succ.inj h
    show (same x y && sameA a b) = _
    rw [sameA_all h2, List.length_cons, List.range_succ_eq_map, List.map_cons, List.all_cons, List.map_map]
    rfl
  | [], _ :: _, h => by cases h
  | _ :: _, [], h => by cases h
theorem scal_bl (a b : Bool) : scal (V.bl a) (V.bl b) = true := rfl
theorem d_bl (a b : Bool) : decide (V.bl a = V.bl b) = decide (a = b) := by
  cases a <;> cases b <;> decide
theorem getD_at {α : Type} {l : List α} {i : Nat} {d : α} (h : i < l.length) : l[i]? = some (l.getD i d) := by
  rw [List.getD_eq_getElem?_getD, List.getElem?_eq_getElem h]
  rfl
/-- the i-th of a sequence of data -/
theorem ixA_go {K : PySem.W.Frag} {H : Hp} {a : Addr} {xs : List V} {ds : List PyData} {i : Nat} {j : Int} {Q : VK} (hj : j = (i : Int)) (hs : SqL K H a xs ∨ SqT K H a xs) (hall : DpAll K H xs ds) (hi : i < ds.length) (q : ∀ v, Dp K H v (ds.getD i .none) → Q v H) : rIxA K (.ref a) (.int j) H Q := by
  obtain ⟨v, hv, hd⟩ := dpa_get hall (getD_at (d := PyData.none) hi)
  rcases hs with hs | hs
  · exact .inl ⟨a, xs, _, v, rfl, rfl, hs, at_of hj hv, q v hd⟩
  · exact .inr ⟨a, xs, _, v, rfl, rfl, hs, at_of hj hv, q v hd⟩
section
variable {K : PySem.W.Frag} {E : XK} {n : Nat} {H : Hp} {Q : VK}
theorem equal_8 {D : Ends} {a b : Addr} {u2 u3 : Option V} {xs ys : List V} {ds es : List PyData} (ha : SqL K H a xs ∨ SqT K H a xs) (hb : SqL K H b ys ∨ SqT K H b ys) (da : DpAll K H xs ds) (db : DpAll K H ys es)
    (h10 : es.length ≤ 10000) (hok : ∀ d ∈ es, okD n d) (k : ∀ H', Ex H H' → D.rt (.bl (sameA ds es)) H') : t_law_equal_7 K (n + 1) E D [some (.ref a), some (.ref b), u2, u3] H := by
  unfold t_law_equal_7
  have la := dpa_len da
  have lb := dpa_len db
  refine if_go (!decide (ds.length = es.length)) (fun Q q => ?_) (fun c => ?_) (fun c => ?_)
  · refine ⟨_, rfl, a, xs, rfl, ha, _, rfl, b, ys, rfl, hb, rfl, _, rfl, ?_⟩
    rw [d_int, la, lb]
    have e : decide ((ds.length : Int) = (es.length : Int)) = decide (ds.length = es.length) := by
      by_cases h : ds.length = es.length
      · rw [decide_eq_true h, decide_eq_true (by omega)]
      · rw [decide_eq_false h, decide_eq_false (by omega)]
    rw [e]
    exact q
  · have h : ds.length ≠ es.length := fun z => by
      rw [decide_eq_true z] at c
      cases c
    have := k H (ex_refl _)
    rw [sameA_len h] at this
    exact this
  · have h : ds.length = es.length := by
      by_cases z : ds.length = es.length
      · exact z
      · rw [decide_eq_false z] at c
        cases c
    have h10000 : (10000 : Nat) < sizeLine := by decide
    refine ⟨_, rfl, b, ys, rfl, hb, _, rfl, by omega, by omega, fun p hp => lc_map walk_range (fun i => .bl (same (ds.getD i .none) (es.getD i .none))) hp (by omega) (fun _ _ => trivial) ?_ ?_⟩
    · rintro i x H3 H4 hi e ⟨rfl, rfl⟩ Q Zf q
      have hi2 : i < es.length := by omega
      have e0 : (0 : Int) + (i : Int) = ((i : Nat) : Int) := by omega
      refine ⟨rfl, iteT (B := Zf H4) ?_⟩
      refine ⟨_, rfl, _, rfl, ?_⟩
      have ha4 : SqL K H4 a xs ∨ SqT K H4 a xs := ha.imp (sq_ex e) (sqt_ex e)
      have hb4 : SqL K H4 b ys ∨ SqT K H4 b ys := hb.imp (sq_ex e) (sqt_ex e)
      refine ixA_go e0 ha4 (dpa_ex e da) (by omega) fun v hv => ⟨_, rfl, _, rfl, ?_⟩
      refine ixA_go e0 hb4 (dpa_ex e db) hi2 fun w hw => ?_
      unfold sp_law_equal
      refine ⟨v, w, _, _, rfl, hv, hw, hok _ ?_, fun H5 e5 => q H5 e5⟩
      exact List.mem_of_getElem? (getD_at (d := PyData.none) hi2)
    · intro H3 e h3
      refine ⟨p, ((List.range es.length).map fun i => same (ds.getD i .none) (es.getD i .none)), rfl, ?_, ?_⟩
      · have e5 : ((ys.length : Int)).toNat = es.length := by omega
        rw [e5] at h3
        rw [List.map_map]
        exact SqL.of h3
      · rw [← sameA_all h]
        exact k H3 e
theorem isiD_go {v : V} {d : PyData} {c : String} (b : Bool) (h : Dp K H v d) (e : kitB (tyN d) c = some b) {i : Nat} {σ : L2.St} (hv : σ[i]? = some (some v)) (q : Q (.bl b) H) : tCB (rIsi K) (tCons (tVar i) (tCons (tC (.ty c)) tNil)) σ H Q :=
  ⟨v, hv, isi_go h e q⟩
/-- isinstance of the first one, then its equality -/
theorem and_isi {v : V} {d : PyData} {c : String} (b r : Bool) (hd : Dp K H v d) (e : kitB (tyN d) c = some b) {te : TE} {σ : L2.St} (hv : σ[0]? = some (some v)) (hf : b = false → r = false) (ht : b = true → ∀ Q : VK, Q (.bl r) H → te σ H Q) (q : Q (.bl r) H) :
    tAndV (tCB (rIsi K) (tCons (tVar 0) (tCons (tC (.ty c)) tNil))) te σ H Q := by
  refine andV_go b r (fun Q q => isiD_go b hd e hv q) (fun hb Q q => ht hb Q q) ?_
  cases b with
  | true => exact q
  | false =>
    have h := hf rfl
    subst h
    exact q
/-- tests that one kind alone passes -/
theorem kind_no {t u : TS} {D : Ends} {v : V} {d : PyData} {c : String} {σ : L2.St} (hd : Dp K H v d) (e : kitB (tyN d) c = some false) (hv : σ[1]? = some (some v)) (k : u D σ H) :
    tIfS (tB (tCB (rIsi K) (tCons (tVar 1) (tCons (tC (.ty c)) tNil)))) t u D σ H :=
  if_go false (fun Q q => isiD_go (Q := fun x H1 => ∃ c, x = .bl c ∧ Q c H1) false hd e hv ⟨false, rfl, q⟩) (fun z => nomatch z) fun _ => k
theorem kind_yes {t u : TS} {D : Ends} {v : V} {d : PyData} {c : String} {σ : L2.St} (hd : Dp K H v d) (e : kitB (tyN d) c = some true) (hv : σ[1]? = some (some v)) (k : t D σ H) :
    tIfS (tB (tCB (rIsi K) (tCons (tVar 1) (tCons (tC (.ty c)) tNil)))) t u D σ H :=
  if_go true (fun Q q => isiD_go (Q := fun x H1 => ∃ c, x = .bl c ∧ Q c H1) true hd e hv ⟨true, rfl, q⟩) (fun _ => k) fun z => nomatch z
/-- both are of a kind, or not -/
theorem kind_ne {t u : TS} {D : Ends} {v w : V} {d e : PyData} {c : String} {σ : L2.St} (b1 b2 : Bool) (hd : Dp K H v d) (he : Dp K H w e) (ed : kitB (tyN d) c = some b1) (ee : kitB (tyN e) c = some b2) (hv : σ[0]? = some (some v)) (hw : σ[1]? = some (some w))
    (k1 : b2 ≠ b1 → t D σ H) (k2 : b2 = b1 → u D σ H) :
    tIfS (tTest (tOp rNe (tCB (rIsi K) (tCons (tVar 1) (tCons (tC (.ty c)) tNil))) (tCB (rIsi K) (tCons (tVar 0) (tCons (tC (.ty c)) tNil))))) t u D σ H := by
  refine if_go (!decide (b2 = b1)) (fun Q q => ?_) (fun z => k1 fun y => ?_) (fun z => k2 ?_)
  · refine isiD_go b2 he ee hw (isiD_go b1 hd ed hv ⟨scal_bl _ _, _, rfl, ?_⟩)
    rw [d_bl]
    exact q
  · rw [decide_eq_true y] at z
    cases z
  · by_cases y : b2 = b1
    · exact y
    · rw [decide_eq_false y] at z
      cases z
theorem tyN_kit : ∀ d : PyData, kitB (tyN d) "bool" = some (tyN d == "bool") ∧ kitB (tyN d) "int" = some (tyN d == "int" || tyN d == "bool") ∧ kitB (tyN d) "str" = some (tyN d == "str") ∧ kitB (tyN d) "dict" = some (tyN d == "dict") ∧
    kitB (tyN d) "tuple" = some (tyN d == "tuple") ∧ kitB (tyN d) "list" = some (tyN d == "list")
  | .none => by decide +kernel
  | .bool _ => (by decide +kernel : kitB "bool" "bool" = some ("bool" == "bool") ∧ kitB "bool" "int" = some ("bool" == "int" || "bool" == "bool") ∧ kitB "bool" "str" = some ("bool" == "str") ∧ kitB "bool" "dict" = some ("bool" == "dict") ∧ kitB "bool" "tuple" = some ("bool" == "tuple") ∧ kitB "bool" "list" = some ("bool" == "list"))
  | .int _ => (by decide +kernel : kitB "int" "bool" = some ("int" == "bool") ∧ kitB "int" "int" = some ("int" == "int" || "int" == "bool") ∧ kitB "int" "str" = some ("int" == "str") ∧ kitB "int" "dict" = some ("int" == "dict") ∧ kitB "int" "tuple" = some ("int" == "tuple") ∧ kitB "int" "list" = some ("int" == "list"))
  | .str _ => (by decide +kernel : kitB "str" "bool" = some ("str" == "bool") ∧ kitB "str" "int" = some ("str" == "int" || "str" == "bool") ∧ kitB "str" "str" = some ("str" == "str") ∧ kitB "str" "dict" = some ("str" == "dict") ∧ kitB "str" "tuple" = some ("str" == "tuple") ∧ kitB "str" "list" = some ("str" == "list"))
  | .list _ => (by decide +kernel : kitB "list" "bool" = some ("list" == "bool") ∧ kitB "list" "int" = some ("list" == "int" || "list" == "bool") ∧ kitB "list" "str" = some ("list" == "str") ∧ kitB "list" "dict" = some ("list" == "dict") ∧ kitB "list" "tuple" = some ("list" == "tuple") ∧ kitB "list" "list" = some ("list" == "list"))
  | .tuple _ => (by decide +kernel : kitB "tuple" "bool" = some ("tuple" == "bool") ∧ kitB "tuple" "int" = some ("tuple" == "int" || "tuple" == "bool") ∧ kitB "tuple" "str" = some ("tuple" == "str") ∧ kitB "tuple" "dict" = some ("tuple" == "dict") ∧ kitB "tuple" "tuple" = some ("tuple" == "tuple") ∧ kitB "tuple" "list" = some ("tuple" == "list"))
  | .dict _ => (by decide +kernel : kitB "dict" "bool" = some ("dict" == "bool") ∧ kitB "dict" "int" = some ("dict" == "int" || "dict" == "bool") ∧ kitB "dict" "str" = some ("dict" == "str") ∧ kitB "dict" "dict" = some ("dict" == "dict") ∧ kitB "dict" "tuple" = some ("dict" == "tuple") ∧ kitB "dict" "list" = some ("dict" == "list"))
/-- of two sequences, or where one of them is none -/
theorem equal_5 {D : Ends} {x : V} {b : Addr} {u2 u3 : Option V} {d e : PyData} {ys : List V} {es : List PyData} (hx : Dp K H x d) (he : (e = .list es ∧ SqL K H b ys) ∨ (e = .tuple es ∧ SqT K H b ys)) (db : DpAll K H ys es)
    (h10 : es.length ≤ 10000) (hok : ∀ d ∈ es, okD n d) (k : ∀ H', Ex H H' → D.rt (.bl (same d e)) H') : t_law_equal_5 K (n + 1) E D [some x, some (.ref b), u2, u3] H := by
  have hy : Dp K H (.ref b) e := by
    rcases he with ⟨rfl, h⟩ | ⟨rfl, h⟩
    · exact .lst h db
    · exact .tup h db
  obtain ⟨_, _, _, _, dt, dl⟩ := tyN_kit d
  obtain ⟨_, _, _, _, et, el⟩ := tyN_kit e
  unfold t_law_equal_5
  refine kind_ne _ _ hx hy dt et rfl rfl (fun z => ?_) (fun z1 => ?_)
  · have : same d e = false := by
      rcases he with ⟨rfl, _⟩ | ⟨rfl, _⟩ <;> cases d <;> first | rfl | exact absurd rfl z
    have k2 := k H (ex_refl _)
    rw [this] at k2
    exact k2
  show t_law_equal_6 K (n + 1) E D [some x, some (.ref b), u2, u3] H
  unfold t_law_equal_6
  refine kind_ne _ _ hx hy dl el rfl rfl (fun z => ?_) (fun z2 => ?_)
  · have : same d e = false := by
      rcases he with ⟨rfl, _⟩ | ⟨rfl, _⟩ <;> cases d <;> first | rfl | exact absurd rfl z
    have k2 := k H (ex_refl _)
    rw [this] at k2
    exact k2
  show t_law_equal_7 K (n + 1) E D [some x, some (.ref b), u2, u3] H
  rcases he with ⟨rfl, hb⟩ | ⟨rfl, hb⟩
  · cases d with
    | list ds =>
      obtain ⟨a, xs, rfl, ha, da⟩ := dp_lst hx
      exact equal_8 (.inl ha) (.inl hb) da db h10 hok k
    | none => exact absurd z2 (show ¬ ("list" == "list") = ("NoneType" == "list") by decide +kernel)
    | bool _ => exact absurd z2 (show ¬ ("list" == "list") = ("bool" == "list") by decide +kernel)
    | int _ => exact absurd z2 (show ¬ ("list" == "list") = ("int" == "list") by decide +kernel)
    | str _ => exact absurd z2 (show ¬ ("list" == "list") = ("str" == "list") by decide +kernel)
    | tuple _ => exact absurd z2 (show ¬ ("list" == "list") = ("tuple" == "list") by decide +kernel)
    | dict _ => exact absurd z2 (show ¬ ("list" == "list") = ("dict" == "list") by decide +kernel)
  · cases d with
    | tuple ds =>
      obtain ⟨a, xs, rfl, ha, da⟩ := dp_tup hx
      exact equal_8 (.inr ha) (.inr hb) da db h10 hok k
    | none => exact absurd z1 (show ¬ ("tuple" == "tuple") = ("NoneType" == "tuple") by decide +kernel)
    | bool _ => exact absurd z1 (show ¬ ("tuple" == "tuple") = ("bool" == "tuple") by decide +kernel)
    | int _ => exact absurd z1 (show ¬ ("tuple" == "tuple") = ("int" == "tuple") by decide +kernel)
    | str _ => exact absurd z1 (show ¬ ("tuple" == "tuple") = ("str" == "tuple") by decide +kernel)
    | list _ => exact absurd z1 (show ¬ ("tuple" == "tuple") = ("list" == "tuple") by decide +kernel)
    | dict _ => exact absurd z1 (show ¬ ("tuple" == "tuple") = ("dict" == "tuple") by decide +kernel)
theorem pure_law_equal (ws : List V) (h : sp_law_equal (n + 1) K ws H Q E) : t_law_equal_0 K n E { nx := fun _ H' => Q .non H', rt := Q } (start ["_law_actual", "_law_expected", "_law_key", "_law_k"] ws) H := by
  unfold sp_law_equal at h
  obtain ⟨x, y, d, e, rfl, hx, hy, hok, k⟩ := h
  show t_law_equal_0 K n E _ [some x, some y, none, none] H
  unfold t_law_equal_0
  obtain ⟨db, di, ds, _, _, _⟩ := tyN_kit d
  have kk : ∀ r, same d e = r → Q (.bl r) H := fun r h => by
    rw [← h]
    exact k H (ex_refl _)
  cases e with
  | none =>
    cases hy
    refine if_go true (fun Q q => ⟨_, rfl, rfl, _, rfl, q⟩) (fun _ => ⟨_, rfl, rfl, kk _ ?_⟩) (fun z => nomatch z)
    cases hx <;> rfl
  | bool b =>
    cases hy
    refine if_go false (fun Q q => ⟨_, rfl, rfl, _, rfl, q⟩) (fun z => nomatch z) (fun _ => ?_)
    show t_law_equal_1 K n E { nx := fun _ H' => Q .non H', rt := Q } [some x, some (.bl b), none, none] H
    unfold t_law_equal_1
    refine kind_yes (.bl b) (show kitB "bool" "bool" = some true by decide +kernel) rfl ?_
    refine and_isi _ (same d (.bool b)) hx db rfl (fun z => ?_) (fun z Q q => ?_) (kk _ rfl)
    · cases d <;> first | rfl | exact absurd z (show ¬ ("bool" == "bool") = false by decide +kernel)
    · cases d with
      | bool c =>
        cases hx
        refine ⟨_, rfl, _, rfl, rfl, ?_⟩
        rw [d_bl]
        exact q
      | none => exact absurd z (show ¬ ("NoneType" == "bool") = true by decide +kernel)
      | int _ => exact absurd z (show ¬ ("int" == "bool") = true by decide +kernel)
      | str _ => exact absurd z (show ¬ ("str" == "bool") = true by decide +kernel)
      | list _ => exact absurd z (show ¬ ("list" == "bool") = true by decide +kernel)
      | tuple _ => exact absurd z (show ¬ ("tuple" == "bool") = true by decide +kernel)
      | dict _ => exact absurd z (show ¬ ("dict" == "bool") = true by decide +kernel)
  | int b =>
    cases hy
    refine if_go false (fun Q q => ⟨_, rfl, rfl, _, rfl, q⟩) (fun z => nomatch z) (fun _ => ?_)
    show t_law_equal_1 K n E { nx := fun _ H' => Q .non H', rt := Q } [some x, some (.int b), none, none] H
    unfold t_law_equal_1
    refine kind_no (.int b) (show kitB "int" "bool" = some false by decide +kernel) rfl ?_
    show t_law_equal_2 K n E { nx := fun _ H' => Q .non H', rt := Q } [some x, some (.int b), none, none] H
    unfold t_law_equal_2
    refine kind_yes (.int b) (show kitB "int" "int" = some true by decide +kernel) rfl ?_
    cases d with
    | int c =>
      cases hx
      refine and_isi true (decide (c = b)) (.int c) (show kitB "int" "int" = some true by decide +kernel) rfl (fun z => nomatch z) (fun _ Q q => andV_go true (decide (c = b)) (fun Q q => isiD_go (Q := fun x H1 => ∃ c, x = .bl c ∧ Q (.bl (!c)) H1) false (.int c) (show kitB "int" "bool" = some false by decide +kernel) rfl ⟨false, rfl, q⟩) (fun _ Q q => ⟨_, rfl, _, rfl, rfl, ?_⟩) q) (kk _ rfl)
      rw [d_int]
      exact q
    | bool c =>
      refine and_isi true false hx (show kitB "bool" "int" = some true by decide +kernel) rfl (fun z => nomatch z) (fun _ Q q => andV_go false false (fun Q q => isiD_go (Q := fun x H1 => ∃ c, x = .bl c ∧ Q (.bl (!c)) H1) true hx (show kitB "bool" "bool" = some true by decide +kernel) rfl ⟨true, rfl, q⟩) (fun z => nomatch z) q) (kk _ rfl)
    | none => exact and_isi false false hx (show kitB "NoneType" "int" = some false by decide +kernel) rfl (fun _ => rfl) (fun z => nomatch z) (kk _ rfl)
    | str _ => exact and_isi false false hx (show kitB "str" "int" = some false by decide +kernel) rfl (fun _ => rfl) (fun z => nomatch z) (kk _ rfl)
    | list _ => exact and_isi false false hx (show kitB "list" "int" = some false by decide +kernel) rfl (fun _ => rfl) (fun z => nomatch z) (kk _ rfl)
    | tuple _ => exact and_isi false false hx (show kitB "tuple" "int" = some false by decide +kernel) rfl (fun _ => rfl) (fun z => nomatch z) (kk _ rfl)
    | dict _ => exact and_isi false false hx (show kitB "dict" "int" = some false by decide +kernel) rfl (fun _ => rfl) (fun z => nomatch z) (kk _ rfl)
  | str b =>
    cases hy
    refine if_go false (fun Q q => ⟨_, rfl, rfl, _, rfl, q⟩) (fun z => nomatch z) (fun _ => ?_)
    show t_law_equal_1 K n E { nx := fun _ H' => Q .non H', rt := Q } [some x, some (.str b), none, none] H
    unfold t_law_equal_1
    refine kind_no (.str b) (show kitB "str" "bool" = some false by decide +kernel) rfl ?_
    show t_law_equal_2 K n E { nx := fun _ H' => Q .non H', rt := Q } [some x, some (.str b), none, none] H
    unfold t_law_equal_2
    refine kind_no (.str b) (show kitB "str" "int" = some false by decide +kernel) rfl ?_
    show t_law_equal_3 K n E { nx := fun _ H' => Q .non H', rt := Q } [some x, some (.str b), none, none] H
    unfold t_law_equal_3
    refine kind_yes (.str b) (show kitB "str" "str" = some true by decide +kernel) rfl ?_
    cases d with
    | str c =>
      cases hx
      refine and_isi true (decide (c = b)) (.str c) (show kitB "str" "str" = some true by decide +kernel) rfl (fun z => nomatch z) (fun _ Q q => ⟨_, rfl, _, rfl, rfl, ?_⟩) (kk _ rfl)
      rw [d_str]
      exact q
    | none => exact and_isi false false hx (show kitB "NoneType" "str" = some false by decide +kernel) rfl (fun _ => rfl) (fun z => nomatch z) (kk _ rfl)
    | bool _ => exact and_isi false false hx (show kitB "bool" "str" = some false by decide +kernel) rfl (fun _ => rfl) (fun z => nomatch z) (kk _ rfl)
    | int _ => exact and_isi false false hx (show kitB "int" "str" = some false by decide +kernel) rfl (fun _ => rfl) (fun z => nomatch z) (kk _ rfl)
    | list _ => exact and_isi false false hx (show kitB "list" "str" = some false by decide +kernel) rfl (fun _ => rfl) (fun z => nomatch z) (kk _ rfl)
    | tuple _ => exact and_isi false false hx (show kitB "tuple" "str" = some false by decide +kernel) rfl (fun _ => rfl) (fun z => nomatch z) (kk _ rfl)
    | dict _ => exact and_isi false false hx (show kitB "dict" "str" = some false by decide +kernel) rfl (fun _ => rfl) (fun z => nomatch z) (kk _ rfl)
  | list es =>
    obtain ⟨b, ys, rfl, hb, dy⟩ := dp_lst (id hy)
    cases n with
    | zero => exact hok.elim
    | succ n =>
      refine if_go false (fun Q q => ⟨_, rfl, rfl, _, rfl, q⟩) (fun z => nomatch z) (fun _ => ?_)
      show t_law_equal_1 K (n + 1) E { nx := fun _ H' => Q .non H', rt := Q } [some x, some (.ref b), none, none] H
      unfold t_law_equal_1
      refine kind_no hy (show kitB "list" "bool" = some false by decide +kernel) rfl ?_
      show t_law_equal_2 K (n + 1) E { nx := fun _ H' => Q .non H', rt := Q } [some x, some (.ref b), none, none] H
      unfold t_law_equal_2
      refine kind_no hy (show kitB "list" "int" = some false by decide +kernel) rfl ?_
      show t_law_equal_3 K (n + 1) E { nx := fun _ H' => Q .non H', rt := Q } [some x, some (.ref b), none, none] H
      unfold t_law_equal_3
      refine kind_no hy (show kitB "list" "str" = some false by decide +kernel) rfl ?_
      show t_law_equal_4 K (n + 1) E { nx := fun _ H' => Q .non H', rt := Q } [some x, some (.ref b), none, none] H
      unfold t_law_equal_4
      refine kind_no hy (show kitB "list" "dict" = some false by decide +kernel) rfl ?_
      exact equal_5 hx (.inl ⟨rfl, hb⟩) dy hok.1 hok.2 k
  | tuple es =>
    obtain ⟨b, ys, rfl, hb, dy⟩ := dp_tup (id hy)
    cases n with
    | zero => exact hok.elim
    | succ n =>
      refine if_go false (fun Q q => ⟨_, rfl, rfl, _, rfl, q⟩) (fun z => nomatch z) (fun _ => ?_)
      show t_law_equal_1 K (n + 1) E { nx := fun _ H' => Q .non H', rt := Q } [some x, some (.ref b), none, none] H
      unfold t_law_equal_1
      refine kind_no hy (show kitB "tuple" "bool" = some false by decide +kernel) rfl ?_
      show t_law_equal_2 K (n + 1) E { nx := fun _ H' => Q .non H', rt := Q } [some x, some (.ref b), none, none] H
      unfold t_law_equal_2
      refine kind_no hy (show kitB "tuple" "int" = some false by decide +kernel) rfl ?_
      show t_law_equal_3 K (n + 1) E { nx := fun _ H' => Q .non H', rt := Q } [some x, some (.ref b), none, none] H
      unfold t_law_equal_3
      refine kind_no hy (show kitB "tuple" "str" = some false by decide +kernel) rfl ?_
      show t_law_equal_4 K (n + 1) E { nx := fun _ H' => Q .non H', rt := Q } [some x, some (.ref b), none, none] H
      unfold t_law_equal_4
      refine kind_no hy (show kitB "tuple" "dict" = some false by decide +kernel) rfl ?_
      exact equal_5 hx (.inr ⟨rfl, hb⟩) dy hok.1 hok.2 k
  | dict es => cases hy
end

end Z
/-! Outrhymes in plain Lean: rises, lifting a place as children come in, rows by counting. -/
namespace Rh
/-- the rise of turn i, counted from 0, round and round -/
def rI (R : List Int) (i : Int) : Int := R.getD (i % (R.length : Int)).toNat 0
theorem rI_per (R : List Int) (i : Int) : rI R (i + (R.length : Int)) = rI R i := by
  unfold rI; rw [Int.add_emod_right]
theorem rI_perk (R : List Int) (i k : Int) : rI R (i - k * (R.length : Int)) = rI R i := by
  unfold rI
  rw [Int.sub_mul_emod_self_right]
theorem rI_perk' (R : List Int) (i k : Int) : rI R (i + k * (R.length : Int)) = rI R i := by
  unfold rI
  rw [Int.add_mul_emod_self_right]

/-- k more children come in, from size s on; n in all at first; p the place -/
def lift (R : List Int) (n : Int) : Nat → Int → Int → Int
  | 0, _, p => p
  | k + 1, s, p => lift R n k (s + 1) ((p + rI R (n - s - 1)) % (s + 1))

theorem lift_zero (R : List Int) (n s p : Int) : lift R n 0 s p = p := rfl
theorem lift_succ (R : List Int) (n : Int) (k : Nat) (s p : Int) : lift R n (k + 1) s p = lift R n k (s + 1) ((p + rI R (n - s - 1)) % (s + 1)) := rfl
theorem lift_add (R : List Int) (n : Int) : ∀ (j k : Nat) (s p : Int), lift R n (j + k) s p = lift R n k (s + (j : Int)) (lift R n j s p)
  | 0, k, s, p => by
    rw [Nat.zero_add, lift_zero]
    have e : s + ((0 : Nat) : Int) = s := by omega
    rw [e]
  | j + 1, k, s, p => by
    have e : j + 1 + k = (j + k) + 1 := by omega
    have e2 : s + ((j + 1 : Nat) : Int) = s + 1 + (j : Int) := by omega
    rw [e, lift_succ, lift_add R n j k, lift_succ, e2]
/-- the last step apart -/
theorem lift_snoc (R : List Int) (n : Int) (j : Nat) (s p : Int) : lift R n (j + 1) s p = (lift R n j s p + rI R (n - (s + (j : Int)) - 1)) % (s + (j : Int) + 1) := by
  rw [lift_add, lift_succ, lift_zero]
theorem lift_range (R : List Int) (n : Int) : ∀ (k : Nat) (s p : Int), 0 ≤ s → 0 ≤ p → (k = 0 → p < s) → 0 ≤ lift R n k s p ∧ lift R n k s p < s + (k : Int)
  | 0, s, p, _, hp, h => by
    have := h rfl
    rw [lift_zero]
    omega
  | k + 1, s, p, hs, hp, _ => by
    rw [lift_snoc]
    have h0 : (0 : Int) < s + (k : Int) + 1 := by omega
    have h1 := Int.emod_nonneg (lift R n k s p + rI R (n - (s + (k : Int)) - 1)) (show s + (k : Int) + 1 ≠ 0 by omega)
    have h2 := Int.emod_lt_of_pos (lift R n k s p + rI R (n - (s + (k : Int)) - 1)) h0
    omega
theorem lift_bd (R : List Int) (n : Int) (k : Nat) (s p : Int) (hp : 0 ≤ p) (h : p < s) : 0 ≤ lift R n k s p ∧ lift R n k s p < s + (k : Int) :=
  lift_range R n k s p (by omega) hp (fun _ => h)

theorem emod_inj {a b m r : Int} (ha : 0 ≤ a) (ham : a < m) (hb : 0 ≤ b) (hbm : b < m) (e : (a + r) % m = (b + r) % m) : a = b := by
  have h1 : (a + r - (b + r)) % m = 0 := by
    rw [Int.sub_emod, e]; simp
  have h2 : a + r - (b + r) = a - b := by omega
  rw [h2] at h1
  have h3 : m ∣ a - b := Int.dvd_of_emod_eq_zero h1
  by_cases h : a = b
  · exact h
  · exfalso
    rcases Int.lt_or_gt_of_ne h with h | h
    · have h4 : m ∣ b - a := by
        have := Int.dvd_neg.mpr h3
        have e : -(a - b) = b - a := by omega
        rw [e] at this; exact this
      have := Int.le_of_dvd (by omega) h4
      omega
    · have := Int.le_of_dvd (by omega) h3
      omega
theorem lift_inj (R : List Int) (n : Int) : ∀ (k : Nat) (s p q : Int), 0 ≤ p → p ≤ s → 0 ≤ q → q ≤ s → (k = 0 → p < s ∧ q < s) → lift R n k s p = lift R n k s q → p = q
  | 0, s, p, q, _, _, _, _, _, e => e
  | k + 1, s, p, q, hp, hps, hq, hqs, _, e => by
    rw [lift_succ, lift_succ] at e
    have h0 : (0 : Int) < s + 1 := by omega
    have b1 := Int.emod_nonneg (p + rI R (n - s - 1)) (show s + 1 ≠ 0 by omega)
    have b2 := Int.emod_lt_of_pos (p + rI R (n - s - 1)) h0
    have c1 := Int.emod_nonneg (q + rI R (n - s - 1)) (show s + 1 ≠ 0 by omega)
    have c2 := Int.emod_lt_of_pos (q + rI R (n - s - 1)) h0
    have e2 := lift_inj R n k (s + 1) _ _ b1 (by omega) c1 (by omega) (fun _ => ⟨b2, c2⟩) e
    exact emod_inj hp (by omega) hq (by omega) e2

/-! ### leaps: a place that goes straight -/
/-- the sum of j rises from index a down -/
def psum (R : List Int) (a : Int) : Nat → Int
  | 0 => 0
  | j + 1 => psum R a j + rI R (a - (j : Int))
theorem psum_zero (R : List Int) (a : Int) : psum R a 0 = 0 := rfl
theorem psum_succ (R : List Int) (a : Int) (j : Nat) : psum R a (j + 1) = psum R a j + rI R (a - (j : Int)) := rfl
theorem psum_per (R : List Int) (a k : Int) (j : Nat) : psum R (a - k * (R.length : Int)) j = psum R a j := by
  induction j with
  | zero => rfl
  | succ j ih =>
    rw [psum_succ, psum_succ, ih]
    have e : a - k * (R.length : Int) - (j : Int) = a - (j : Int) - k * (R.length : Int) := by omega
    rw [e, rI_perk]
theorem psum_per' (R : List Int) (a k : Int) (j : Nat) : psum R (a + k * (R.length : Int)) j = psum R a j := by
  have := psum_per R (a + k * (R.length : Int)) k j
  have e : a + k * (R.length : Int) - k * (R.length : Int) = a := by omega
  rw [e] at this
  exact this.symm
theorem lift_straight (R : List Int) (n s p : Int) : ∀ j : Nat, (∀ i : Nat, i < j → 0 ≤ p + psum R (n - s - 1) (i + 1) ∧ p + psum R (n - s - 1) (i + 1) ≤ s + (i : Int)) →
    lift R n j s p = p + psum R (n - s - 1) j
  | 0, _ => by rw [lift_zero, psum_zero]; omega
  | j + 1, h => by
    rw [lift_snoc, lift_straight R n s p j (fun i hi => h i (by omega)), psum_succ]
    have hj := h j (by omega)
    rw [psum_succ] at hj
    have e : n - (s + (j : Int)) - 1 = n - s - 1 - (j : Int) := by omega
    rw [e]
    have e2 : p + psum R (n - s - 1) j + rI R (n - s - 1 - (j : Int)) = p + (psum R (n - s - 1) j + rI R (n - s - 1 - (j : Int))) := by omega
    rw [e2]
    exact Int.emod_eq_of_lt hj.1 (by omega)
/-- L whole rhymes -/
theorem lift_leap (R : List Int) (n s p T : Int) (m : Nat) (hm : m = R.length) (hT : T = psum R (n - s - 1) m) : ∀ L : Nat,
    (∀ c : Nat, c < L → ∀ i : Nat, i < m → 0 ≤ p + (c : Int) * T + psum R (n - s - 1) (i + 1) ∧ p + (c : Int) * T + psum R (n - s - 1) (i + 1) ≤ s + (c : Int) * (m : Int) + (i : Int)) →
    lift R n (L * m) s p = p + (L : Int) * T
  | 0, _ => by rw [Nat.zero_mul, lift_zero]; omega
  | L + 1, h => by
    have e : (L + 1) * m = L * m + m := by rw [Nat.add_mul, Nat.one_mul]
    rw [e, lift_add, lift_leap R n s p T m hm hT L (fun c hc => h c (by omega))]
    have hL := h L (by omega)
    have ec : ((L * m : Nat) : Int) = (L : Int) * (m : Int) := Int.natCast_mul L m
    rw [ec]
    have ea : n - (s + (L : Int) * (m : Int)) - 1 = n - s - 1 - (L : Int) * (R.length : Int) := by rw [← hm]; omega
    rw [lift_straight]
    · rw [ea, psum_per, ← hT]
      have : ((L + 1 : Nat) : Int) * T = (L : Int) * T + T := by
        rw [Int.natCast_add, Int.add_mul]; simp
      omega
    · intro i hi
      rw [ea, psum_per]
      have := hL i hi
      omega

/-! ### a place beside the singer -/
/-- the place of b (on from 0, or back, below 0) when s are in -/
def pl (s b : Int) : Int := if b < 0 then s + b else b
/-- one step of does_stay -/
def st1 (b r : Int) : Int := b + r - (if b < 0 then 1 else 0)
def stays : List Int → Int → Int
  | [], b => b
  | r :: l, b => stays l (st1 b r)
/-- one step up at the singer's side -/
theorem step_side {s b r : Int} (hs : 60 < s) (hb : -50 ≤ b ∧ b ≤ 50) (hr : -5 ≤ r ∧ r ≤ 6) : (pl s b + r) % (s + 1) = pl (s + 1) (st1 b r) := by
  unfold pl st1
  by_cases h1 : b < 0
  · rw [if_pos h1, if_pos h1]
    by_cases h2 : b + r - 1 < 0
    · rw [if_pos h2]
      rw [Int.emod_eq_of_lt (by omega) (by omega)]
      omega
    · rw [if_neg h2]
      have e : s + b + r = (b + r - 1) + (s + 1) := by omega
      rw [e, Int.add_emod_right]
      exact Int.emod_eq_of_lt (by omega) (by omega)
  · rw [if_neg h1, if_neg h1]
    by_cases h2 : b + r - 0 < 0
    · rw [if_pos h2]
      have e : b + r = (b + r + (s + 1)) - (s + 1) := by omega
      rw [e, Int.sub_emod_right]
      rw [Int.emod_eq_of_lt (by omega) (by omega)]
      omega
    · rw [if_neg h2]
      rw [Int.emod_eq_of_lt (by omega) (by omega)]
      omega
/-- the rises from index a down -/
def rrow (R : List Int) (a : Int) : Nat → List Int
  | 0 => []
  | j + 1 => rI R a :: rrow R (a - 1) j
theorem lift_side (R : List Int) (n : Int) (hR : ∀ i, -5 ≤ rI R i ∧ rI R i ≤ 6) : ∀ (j : Nat) (s b : Int), 60 < s → -50 + 6 * (j : Int) ≤ b → b ≤ 50 - 6 * (j : Int) →
    lift R n j s (pl s b) = pl (s + (j : Int)) (stays (rrow R (n - s - 1) j) b)
  | 0, s, b, _, _, _ => by
    rw [lift_zero]
    show _ = pl _ b
    have e : s + ((0 : Nat) : Int) = s := by omega
    rw [e]
  | j + 1, s, b, hs, h1, h2 => by
    have hr := hR (n - s - 1)
    rw [lift_succ, step_side hs ⟨by omega, by omega⟩ hr]
    have hb : -6 ≤ st1 b (rI R (n - s - 1)) - b ∧ st1 b (rI R (n - s - 1)) - b ≤ 6 := by
      unfold st1; split <;> omega
    rw [lift_side R n hR j (s + 1) (st1 b (rI R (n - s - 1))) (by omega) (by omega) (by omega)]
    have e1 : s + 1 + (j : Int) = s + ((j + 1 : Nat) : Int) := by omega
    have e2 : n - (s + 1) - 1 = n - s - 1 - 1 := by omega
    rw [e1, e2]
    rfl
theorem rrow_per (R : List Int) (k : Int) : ∀ (j : Nat) (a : Int), rrow R (a - k * (R.length : Int)) j = rrow R a j
  | 0, _ => rfl
  | j + 1, a => by
    show rI R (a - k * (R.length : Int)) :: rrow R (a - k * (R.length : Int) - 1) j = rI R a :: rrow R (a - 1) j
    have e : a - k * (R.length : Int) - 1 = a - 1 - k * (R.length : Int) := by omega
    rw [e, rrow_per R k j, rI_perk]
/-- a place that stays through one rhyme stays through L -/
theorem lift_stay (R : List Int) (n s b : Int) (m : Nat) (hm : m = R.length) (hm4 : m ≤ 4) (hR : ∀ i, -5 ≤ rI R i ∧ rI R i ≤ 6) (hs : 60 < s) (hb : -26 ≤ b ∧ b ≤ 26) (hst : stays (rrow R (n - s - 1) m) b = b) : ∀ L : Nat,
    lift R n (L * m) s (pl s b) = pl (s + (L : Int) * (m : Int)) b
  | 0 => by
    rw [Nat.zero_mul, lift_zero]
    have e : s + ((0 : Nat) : Int) * (m : Int) = s := by simp
    rw [e]
  | L + 1 => by
    have e : (L + 1) * m = L * m + m := by rw [Nat.add_mul, Nat.one_mul]
    have ec : ((L * m : Nat) : Int) = (L : Int) * (m : Int) := Int.natCast_mul L m
    rw [e, lift_add, lift_stay R n s b m hm hm4 hR hs hb hst L, ec]
    have h0 : 0 ≤ (L : Int) * (m : Int) := by rw [← ec]; exact Int.natCast_nonneg _
    rw [lift_side R n hR m _ b (by omega) (by omega) (by omega)]
    have ea : n - (s + (L : Int) * (m : Int)) - 1 = n - s - 1 - (L : Int) * (R.length : Int) := by rw [← hm]; omega
    rw [ea, rrow_per, hst]
    have : ((L + 1 : Nat) : Int) * (m : Int) = (L : Int) * (m : Int) + (m : Int) := by
      rw [Int.natCast_add, Int.add_mul]; simp
    rw [this, Int.add_assoc]
end Rh
namespace Rh
/-! ### rows by counting -/
/-- where the next child stands in a row of s -/
def atR (r : Int) (s : Nat) : Nat := ((r - 1) % (s : Int)).toNat
/-- the row on from behind that place -/
def cut {α : Type} (row : List α) (a : Nat) : List α := row.drop (a + 1) ++ row.take a
/-- those who went, those who are in, behind j turns -/
def st (R : List Int) (n : Nat) : Nat → List Int × List Int
  | 0 => ([], (List.range n).map fun (i : Nat) => (i : Int))
  | j + 1 => ((st R n j).1 ++ [(st R n j).2.getD (atR (rI R j) (st R n j).2.length) 0], cut (st R n j).2 (atR (rI R j) (st R n j).2.length))
theorem atR_lt {r : Int} {s : Nat} (h : 0 < s) : atR r s < s := by
  unfold atR
  have h1 := Int.emod_nonneg (r - 1) (show (s : Int) ≠ 0 by omega)
  have h2 := Int.emod_lt_of_pos (r - 1) (show (0 : Int) < (s : Int) by omega)
  omega
theorem cut_length {α : Type} {row : List α} {a : Nat} (h : a < row.length) : (cut row a).length = row.length - 1 := by
  unfold cut
  rw [List.length_append, List.length_drop, List.length_take]
  omega
theorem st_len (R : List Int) (n : Nat) : ∀ j : Nat, j ≤ n → (st R n j).2.length = n - j
  | 0, _ => by show ((List.range n).map _).length = n - 0; simp
  | j + 1, h => by
    have ih := st_len R n j (by omega)
    show (cut _ _).length = _
    rw [cut_length (atR_lt (by omega)), ih]
    omega
theorem st_len1 (R : List Int) (n : Nat) : ∀ j : Nat, (st R n j).1.length = j
  | 0 => rfl
  | j + 1 => by
    show (_ ++ [_]).length = _
    rw [List.length_append, st_len1 R n j]
    rfl
/-- the place q of the row behind was the place q + r ahead -/
theorem cut_get {row : List Int} {r : Int} {q : Nat} (hq : q + 1 < row.length) : (cut row (atR r row.length)).getD q 0 = row.getD (((q : Int) + r) % (row.length : Int)).toNat 0 := by
  have hs : 0 < row.length := by omega
  have ha : atR r row.length < row.length := atR_lt hs
  have hae : ((atR r row.length : Nat) : Int) = (r - 1) % (row.length : Int) := by
    unfold atR
    exact Int.toNat_of_nonneg (Int.emod_nonneg _ (by omega))
  generalize hA : atR r row.length = a at *
  have key : ((q : Int) + r) % (row.length : Int) = ((q : Int) + 1 + (a : Int)) % (row.length : Int) := by
    rw [hae, Int.add_emod_emod]
    congr 1
    omega
  rw [key]
  unfold cut
  by_cases h : q < row.length - (a + 1)
  · rw [Int.emod_eq_of_lt (by omega) (by omega)]
    have e : ((q : Int) + 1 + (a : Int)).toNat = a + 1 + q := by omega
    rw [e, List.getD_eq_getElem?_getD, List.getD_eq_getElem?_getD, List.getElem?_append_left (by rw [List.length_drop]; exact h), List.getElem?_drop]
  · have e0 : (q : Int) + 1 + (a : Int) = ((q : Int) + 1 + (a : Int) - (row.length : Int)) + (row.length : Int) := by omega
    rw [e0, Int.add_emod_right, Int.emod_eq_of_lt (by omega) (by omega)]
    rw [List.getD_eq_getElem?_getD, List.getD_eq_getElem?_getD, List.getElem?_append_right (by rw [List.length_drop]; omega), List.length_drop, List.getElem?_take, if_pos (by omega)]
    congr 2
    omega
/-- the row behind j turns, by lifting -/
theorem st_get (R : List Int) (n : Nat) : ∀ (j q : Nat), j ≤ n → q < n - j → (st R n j).2.getD q 0 = lift R n j ((n : Int) - (j : Int)) (q : Int)
  | 0, q, _, h => by
    rw [lift_zero]
    show ((List.range n).map fun (i : Nat) => (i : Int)).getD q 0 = _
    rw [List.getD_eq_getElem?_getD, List.getElem?_map, List.getElem?_range (by omega)]
    rfl
  | j + 1, q, hj, h => by
    show (cut _ _).getD q 0 = _
    have hl := st_len R n j (by omega)
    rw [cut_get (by omega), hl, lift_succ]
    have e1 : (n : Int) - ((j + 1 : Nat) : Int) + 1 = (n : Int) - (j : Int) := by omega
    have e2 : (n : Int) - ((n : Int) - ((j + 1 : Nat) : Int)) - 1 = (j : Int) := by omega
    have e3 : (((n - j : Nat) : Nat) : Int) = (n : Int) - (j : Int) := by omega
    rw [e1, e2, e3]
    have h1 := Int.emod_nonneg ((q : Int) + rI R j) (show (n : Int) - (j : Int) ≠ 0 by omega)
    have h2 := Int.emod_lt_of_pos ((q : Int) + rI R j) (show (0 : Int) < (n : Int) - (j : Int) by omega)
    rw [st_get R n j _ (by omega) (by omega)]
    have e4 : ((((q : Int) + rI R j) % ((n : Int) - (j : Int))).toNat : Int) = ((q : Int) + rI R j) % ((n : Int) - (j : Int)) := Int.toNat_of_nonneg h1
    rw [e4]
/-- who goes as the turn-th, counted from 1 -/
def goneF (R : List Int) (n t : Int) : Int := lift R n (t - 1).toNat (n - t + 1) ((n - t + rI R (t - 1)) % (n - t + 1))
theorem st_snoc1 (R : List Int) (n j : Nat) (h : j < n) : (st R n (j + 1)).1 = (st R n j).1 ++ [goneF R n ((j : Int) + 1)] := by
  show _ ++ [_] = _ ++ [_]
  have hl := st_len R n j (by omega)
  have ha : atR (rI R j) (n - j) < n - j := atR_lt (by omega)
  rw [hl, st_get R n j _ (by omega) ha]
  unfold goneF
  have e1 : ((j : Int) + 1 - 1).toNat = j := by omega
  have e2 : (n : Int) - ((j : Int) + 1) + 1 = (n : Int) - (j : Int) := by omega
  have e3 : (j : Int) + 1 - 1 = (j : Int) := by omega
  rw [e1, e2, e3]
  have e4 : ((atR (rI R j) (n - j) : Nat) : Int) = ((n : Int) - ((j : Int) + 1) + rI R j) % ((n : Int) - (j : Int)) := by
    unfold atR
    rw [Int.toNat_of_nonneg (Int.emod_nonneg _ (by omega))]
    have e5 : (((n - j : Nat) : Nat) : Int) = (n : Int) - (j : Int) := by omega
    rw [e5]
    have e6 : (n : Int) - ((j : Int) + 1) + rI R j = (rI R j - 1) + ((n : Int) - (j : Int)) := by omega
    rw [e6, Int.add_emod_right]
  rw [e4]
/-- the first j who go -/
def goneL (R : List Int) (n : Int) (j : Nat) : List Int := (List.range j).map fun (i : Nat) => goneF R n ((i : Int) + 1)
theorem st_fst (R : List Int) (n : Nat) : ∀ j : Nat, j ≤ n → (st R n j).1 = goneL R n j
  | 0, _ => rfl
  | j + 1, h => by
    rw [st_snoc1 R n j (by omega), st_fst R n j (by omega)]
    unfold goneL
    rw [List.range_succ, List.map_append]
    rfl
/-- those who are in behind j turns, on from the singer -/
def rowL (R : List Int) (n : Int) (s : Nat) : List Int := (List.range s).map fun (q : Nat) => lift R n (n - s).toNat s (q : Int)
theorem st_snd (R : List Int) (n j : Nat) (h : j ≤ n) : (st R n j).2 = rowL R n (n - j) := by
  have hl := st_len R n j h
  refine List.ext_getElem? fun q => ?_
  unfold rowL
  by_cases hq : q < n - j
  · have h1 := st_get R n j q h hq
    rw [List.getD_eq_getElem?_getD] at h1
    rw [List.getElem?_map, List.getElem?_range hq]
    have h2 : q < (st R n j).2.length := by omega
    rw [List.getElem?_eq_getElem h2] at h1 ⊢
    have h3 : ((n : Int) - ((n - j : Nat) : Int)).toNat = j := by omega
    have h4 : ((n - j : Nat) : Int) = (n : Int) - (j : Int) := by omega
    show some _ = some _
    rw [h3, h4]
    exact congrArg some h1
  · rw [List.getElem?_eq_none_iff.mpr (by omega), List.getElem?_eq_none_iff.mpr (by simp; omega)]
theorem cut_perm {α : Type} {row : List α} {a : Nat} {x : α} (h : row[a]? = some x) : (x :: cut row a).Perm row := by
  unfold cut
  obtain ⟨ha, hx⟩ := List.getElem?_eq_some_iff.mp h
  have e : row = row.take a ++ (x :: row.drop (a + 1)) := by
    rw [← hx, ← List.drop_eq_getElem_cons ha, List.take_append_drop]
  have p1 : (x :: (row.drop (a + 1) ++ row.take a)).Perm (row.take a ++ (x :: row.drop (a + 1))) :=
    (List.perm_append_comm (l₁ := x :: row.drop (a + 1)) (l₂ := row.take a))
  exact p1.trans (by rw [← e])
theorem st_perm (R : List Int) (n : Nat) : ∀ j : Nat, j ≤ n → ((st R n j).1 ++ (st R n j).2).Perm ((List.range n).map fun (i : Nat) => (i : Int))
  | 0, _ => List.Perm.refl _
  | j + 1, h => by
    have ih := st_perm R n j (by omega)
    have hl := st_len R n j (by omega)
    have ha : atR (rI R j) (st R n j).2.length < (st R n j).2.length := atR_lt (by omega)
    show ((_ ++ [_]) ++ cut _ _).Perm _
    have e : (st R n j).2[atR (rI R j) (st R n j).2.length]? = some ((st R n j).2.getD (atR (rI R j) (st R n j).2.length) 0) := by
      rw [List.getD_eq_getElem?_getD, List.getElem?_eq_getElem ha]; rfl
    have p := cut_perm e
    refine List.Perm.trans ?_ ih
    rw [List.append_assoc]
    exact List.Perm.append_left _ p
end Rh
namespace Rh
/-! ### how far a place goes straight -/
def timesAbove (room more : Int) : Option Int := if room < 0 then some 0 else if 0 ≤ more then none else some (room / (-more) + 1)
def leastOf (l : List (Option Int)) : Option Int := (l.filterMap id).min?
/-- o tells how long p holds -/
def Told (o : Option Int) (p : Int → Prop) : Prop := (o = none → ∀ c, 0 ≤ c → p c) ∧ ∀ L, o = some L → 0 ≤ L ∧ (∀ c, 0 ≤ c → c < L → p c) ∧ ¬ p L
theorem told_above (room more : Int) : Told (timesAbove room more) (fun c => 0 ≤ room + c * more) := by
  unfold timesAbove
  by_cases h1 : room < 0
  · rw [if_pos h1]
    refine ⟨fun e => (nomatch e), fun L e => ?_⟩
    cases e
    exact ⟨Int.le_refl 0, fun c h0 h => by omega, by show ¬ (0 ≤ room + 0 * more); rw [Int.zero_mul]; omega⟩
  · rw [if_neg h1]
    by_cases h2 : 0 ≤ more
    · rw [if_pos h2]
      refine ⟨fun _ c hc => ?_, fun L e => nomatch e⟩
      have := Int.mul_nonneg hc h2
      omega
    · rw [if_neg h2]
      refine ⟨fun e => (nomatch e), fun L e => ?_⟩
      have e2 : room / (-more) + 1 = L := Option.some.inj e
      subst e2
      have hd : 0 < -more := by omega
      have q0 : 0 ≤ room / (-more) := Int.ediv_nonneg (by omega) (by omega)
      have q1 : room / (-more) * (-more) ≤ room := Int.ediv_mul_le room (by omega)
      have q2 : room < (room / (-more) + 1) * (-more) := Int.lt_ediv_add_one_mul_self room hd
      refine ⟨by omega, fun c h0 h => ?_, ?_⟩
      · have : c * (-more) ≤ room / (-more) * (-more) := Int.mul_le_mul_of_nonneg_right (by omega) (by omega)
        have e3 : c * -more = -(c * more) := Int.mul_neg c more
        omega
      · have e3 : (room / (-more) + 1) * -more = -((room / (-more) + 1) * more) := Int.mul_neg _ more
        omega
theorem told_imp {o : Option Int} {p q : Int → Prop} (h : ∀ c, p c ↔ q c) (t : Told o p) : Told o q :=
  ⟨fun e c hc => (h c).mp (t.1 e c hc), fun L e => ⟨(t.2 L e).1, fun c h0 hl => (h c).mp ((t.2 L e).2.1 c h0 hl), fun z => (t.2 L e).2.2 ((h L).mpr z)⟩⟩
/-- two answers an index -/
def optL (f g : Nat → Option Int) (n : Nat) : List (Option Int) := (List.range n).flatMap fun i => [f i, g i]
theorem optL_succ (f g : Nat → Option Int) (n : Nat) : optL f g (n + 1) = optL f g n ++ [f n, g n] := by
  unfold optL
  rw [List.range_succ, List.flatMap_append]
  simp
theorem least_told {f g : Nat → Option Int} {p q : Nat → Int → Prop} {n : Nat} (hf : ∀ i, i < n → Told (f i) (p i)) (hg : ∀ i, i < n → Told (g i) (q i)) :
    Told (leastOf (optL f g n)) (fun c => ∀ i, i < n → p i c ∧ q i c) := by
  have mem : ∀ x, some x ∈ optL f g n → ∃ i, i < n ∧ (f i = some x ∨ g i = some x) := fun x hx => by
    unfold optL at hx
    obtain ⟨i, hi, hx⟩ := List.mem_flatMap.mp hx
    refine ⟨i, List.mem_range.mp hi, ?_⟩
    rcases List.mem_cons.mp hx with h | h
    · exact .inl h.symm
    · exact .inr (List.mem_singleton.mp h).symm
  have memf : ∀ i, i < n → f i ∈ optL f g n := fun i hi => List.mem_flatMap.mpr ⟨i, List.mem_range.mpr hi, List.mem_cons_self ..⟩
  have memg : ∀ i, i < n → g i ∈ optL f g n := fun i hi => List.mem_flatMap.mpr ⟨i, List.mem_range.mpr hi, List.mem_cons_of_mem _ (List.mem_cons_self ..)⟩
  have memN : ∀ x, x ∈ (optL f g n).filterMap id ↔ some x ∈ optL f g n := fun x => by
    rw [List.mem_filterMap]
    exact ⟨fun ⟨a, ha, e⟩ => by
      have e2 : a = some x := e
      rwa [e2] at ha, fun h => ⟨_, h, rfl⟩⟩
  refine ⟨fun e c hc i hi => ?_, fun L e => ?_⟩
  · have en : (optL f g n).filterMap id = [] := List.min?_eq_none_iff.mp e
    have nf : ∀ o, o ∈ optL f g n → o = none := fun o ho => by
      cases o with
      | none => rfl
      | some x =>
        have := (memN x).mpr ho
        rw [en] at this
        cases this
    exact ⟨(hf i hi).1 (nf _ (memf i hi)) c hc, (hg i hi).1 (nf _ (memg i hi)) c hc⟩
  · have e2 : ((optL f g n).filterMap id).min? = some L := e
    have hm := List.min?_eq_some_iff.mp e2
    obtain ⟨hL, hle⟩ := hm
    obtain ⟨i, hi, hfg⟩ := mem L ((memN L).mp hL)
    refine ⟨?_, fun c h0 hc j hj => ⟨?_, ?_⟩, fun z => ?_⟩
    · rcases hfg with h | h
      · exact ((hf i hi).2 L h).1
      · exact ((hg i hi).2 L h).1
    · cases q1 : f j with
      | none => exact (hf j hj).1 q1 c h0
      | some x =>
        have := hle x ((memN x).mpr (by rw [← q1]; exact memf j hj))
        exact ((hf j hj).2 x q1).2.1 c h0 (by omega)
    · cases q1 : g j with
      | none => exact (hg j hj).1 q1 c h0
      | some x =>
        have := hle x ((memN x).mpr (by rw [← q1]; exact memg j hj))
        exact ((hg j hj).2 x q1).2.1 c h0 (by omega)
    · rcases hfg with h | h
      · exact ((hf i hi).2 L h).2.2 (z i hi).1
      · exact ((hg i hi).2 L h).2.2 (z i hi).2
/-- the place goes up straight through the c-th rhyme -/
def Up (place size : Int) (sums : List Int) (c : Int) : Prop := ∀ i : Nat, i < sums.length →
  0 ≤ place + c * sums.getD (sums.length - 1) 0 + sums.getD i 0 ∧ place + c * sums.getD (sums.length - 1) 0 + sums.getD i 0 ≤ size + c * (sums.length : Int) + (i : Int)
def climbsF (place size : Int) (sums : List Int) : Option Int := leastOf (optL (fun i => timesAbove (place + sums.getD i 0) (sums.getD (sums.length - 1) 0))
  (fun i => timesAbove (size + (i : Int) - place - sums.getD i 0) ((sums.length : Int) - sums.getD (sums.length - 1) 0)) sums.length)
theorem climbs_told (place size : Int) (sums : List Int) : Told (climbsF place size sums) (Up place size sums) := by
  have t := least_told (n := sums.length) (fun i _ => told_above (place + sums.getD i 0) (sums.getD (sums.length - 1) 0)) (fun i _ => told_above (size + (i : Int) - place - sums.getD i 0) ((sums.length : Int) - sums.getD (sums.length - 1) 0))
  refine told_imp (fun c => ?_) t
  refine forall_congr' fun i => imp_congr_right fun hi => ?_
  rw [Int.mul_sub]
  exact ⟨fun ⟨h1, h2⟩ => ⟨by omega, by omega⟩, fun ⟨h1, h2⟩ => ⟨by omega, by omega⟩⟩
/-- .. down -/
def Dn (place size : Int) (sums : List Int) (c : Int) : Prop := ∀ i : Nat, i < sums.length →
  0 ≤ place - c * sums.getD (sums.length - 1) 0 - sums.getD i 0 ∧ place - c * sums.getD (sums.length - 1) 0 - sums.getD i 0 ≤ size - c * (sums.length : Int) - (i : Int) - 2
def fallsF (place size : Int) (sums : List Int) : Option Int := leastOf (optL (fun i => timesAbove (place - sums.getD i 0) (-(sums.getD (sums.length - 1) 0)))
  (fun i => timesAbove (size - (i : Int) - 2 - place + sums.getD i 0) (sums.getD (sums.length - 1) 0 - (sums.length : Int))) sums.length)
theorem falls_told (place size : Int) (sums : List Int) : Told (fallsF place size sums) (Dn place size sums) := by
  have t := least_told (n := sums.length) (fun i _ => told_above (place - sums.getD i 0) (-(sums.getD (sums.length - 1) 0))) (fun i _ => told_above (size - (i : Int) - 2 - place + sums.getD i 0) (sums.getD (sums.length - 1) 0 - (sums.length : Int)))
  refine told_imp (fun c => ?_) t
  refine forall_congr' fun i => imp_congr_right fun hi => ?_
  rw [Int.mul_sub, Int.mul_neg]
  exact ⟨fun ⟨h1, h2⟩ => ⟨by omega, by omega⟩, fun ⟨h1, h2⟩ => ⟨by omega, by omega⟩⟩
end Rh
namespace Z
open PySem PySem.Spec PyProof.Rows L2
local macro_rules | `(tactic| walk_at "look") => `(tactic| first | assumption | exact upd_same | exact SqL.of (by assumption) | exact SqT.of (by assumption) | exact SqL.of upd_same | exact SqT.of upd_same)
local macro_rules | `(tactic| walk_at "at") => `(tactic| first | exact at0 | exact at1 | exact at2 | exact at3 | exact ix0 | exact ix1 | assumption | exact atI_nat (by rfl))
local macro_rules | `(tactic| walk_at "sd") => `(tactic| ((try dsimp only); first | assumption | omega | (unfold CMul; omega) | (unfold CDiv; omega) | (unfold CPow; decide) | decide))
local macro_rules | `(tactic| walk_at "st") => `(tactic| first
  | (refine ⟨_, rfl, ?_⟩)
  | (refine ⟨_, _, rfl, rfl, ?_⟩)
  | (refine ⟨rfl, ?_⟩)
  | (refine .inl ⟨_, rfl, ?_⟩)
  | (refine ⟨_, _, _, _, rfl, rfl, (by walk_at "look"), (by walk_at "at"), ?_⟩)
  | (refine ⟨_, _, rfl, .inl (by walk_at "look"), ?_⟩)
  | (refine And.intro (by walk_at "sd") ?_)
  | fail "no step")
local macro_rules | `(tactic| walk_at "go") => `(tactic| repeat' (walk_at "st"))
local macro_rules | `(tactic| walk_at "ans") => `(tactic| (intro Q q; (repeat' (walk_at "st")); exact q))

abbrev cMin2 : RL := fun xs H Q => ∃ i j, xs = [.int i, .int j] ∧ Q (.int (if j < i then j else i)) H
abbrev cMax2 : RL := fun xs H Q => ∃ i j, xs = [.int i, .int j] ∧ Q (.int (if j > i then j else i)) H
/-- an answer or none -/
def oV : Option Int → V
  | none => .non
  | some i => .int i
theorem oV_none (o : Option Int) : decide (oV o = .non) = o.isNone := by
  cases o with
  | none => exact decide_eq_true rfl
  | some i => exact decide_eq_false fun z => by cases z
/-! ### sums_of -/
def sumsL (l : List Int) : List Int := (List.range l.length).map fun i => (l.take (i + 1)).sum
theorem sumsL_len (l : List Int) : (sumsL l).length = l.length := by
  unfold sumsL
  rw [List.length_map, List.length_range]
@[irreducible] def sp_sums_of (K : PySem.W.Frag) : Sp := fun ws H Q _ => ∃ (a : Addr) (l : List Int), ws = [.ref a] ∧ SqL K H a (l.map V.int) ∧ l.length ≤ 100 ∧
  ∀ (p : Addr) (H' : Hp), H p = none → Ex H H' → H' p = some (.lst ((sumsL l).map V.int)) → Q (.ref p) H'
def t_sums_of_2a_1 (K : PySem.W.Frag) (E : XK) : TS := (tDrop (tBM K "list" rAppend (tVar 1) (tCons (tVar 2) tNil)))

def t_sums_of_2a_0 (K : PySem.W.Frag) (E : XK) : TS := tSeq (tAug 2 (tVar 3) (ipI fun i j => i + j)) (t_sums_of_2a_1 K E)

def t_sums_of_3 (K : PySem.W.Frag) (E : XK) : TS := (tRet (tVar 1))

@[irreducible] def t_sums_of_2 (K : PySem.W.Frag) (E : XK) : TS := tSeq (tFor (iList K (tVar 0)) (gName 3)
    (t_sums_of_2a_0 K E)) (t_sums_of_3 K E)

def t_sums_of_1 (K : PySem.W.Frag) (E : XK) : TS := tSeq (tAsg (tC (.int 0)) (gName 2)) (t_sums_of_2 K E)

def t_sums_of_0 (K : PySem.W.Frag) (E : XK) : TS := tSeq (tAsg (tLst tNil) (gName 1)) (t_sums_of_1 K E)

theorem take_sum {l : List Int} {i : Nat} {x : Int} (h : l[i]? = some x) : (l.take (i + 1)).sum = (l.take i).sum + x := by
  rw [List.take_succ, h, List.sum_append]
  simp
theorem pure_sums_of {K : PySem.W.Frag} (ws : List V) (H : Hp) (Q : VK) (E : XK) (h : sp_sums_of K ws H Q E) : t_sums_of_0 K E { nx := fun _ H' => Q .non H', rt := Q } (start ["row", "found", "total", "number"] ws) H := by
  unfold sp_sums_of at h
  obtain ⟨a, l, rfl, hS, hl, k⟩ := h
  show t_sums_of_0 K E _ [some (.ref a), none, none, none] H
  refine ⟨Nat.zero_le _, fun p hp => ?_⟩
  show t_sums_of_2 K E _ [some (.ref a), some (.ref p), some (.int 0), none] _
  have e1 := ex_new (o := .lst []) hp
  unfold t_sums_of_2
  refine ⟨_, rfl, a, rfl, ⟨_, sq_ex e1 hS⟩, for_it walk_list (fun i σ H' => Ex H H' ∧ H' p = some (.lst ((List.range i).map fun j => V.int (l.take (j + 1)).sum)) ∧ ∃ u, σ = [some (.ref a), some (.ref p), some (.int (l.take i).sum), u]) ⟨e1, upd_same, none, rfl⟩ (fun i σ H' _ h => sq_ex h.1 hS) ?_ ?_⟩
  · rintro i x σ H1 H2 hi ⟨e, hp1, u, rfl⟩ ⟨rfl, hx⟩
    rw [List.getElem?_map] at hx
    cases hy : l[i]? with
    | none =>
      rw [hy] at hx
      cases hx
    | some y =>
      rw [hy] at hx
      have ex : V.int y = x := Option.some.inj hx
      subst ex
      rw [List.length_map] at hi
      refine ⟨_, rfl, _, rfl, _, _, rfl, rfl, _, rfl, .inl ⟨rfl, _, SqL.of hp1⟩, _, rfl, p, _, _, rfl, rfl, hp1, ?_, ?_⟩
      · rw [List.length_map, List.length_range]
        exact Nat.lt_of_lt_of_le hi (Nat.le_trans hl (by decide))
      · refine ⟨ex_mut e hp, ?_, _, by rw [take_sum hy]; rfl⟩
        rw [upd_same, List.range_succ, List.map_append]
        show some (HO.lst (_ ++ [V.int ((l.take i).sum + y)])) = some (HO.lst (_ ++ [V.int (l.take (i + 1)).sum]))
        rw [take_sum hy]
  · rintro σ H1 ⟨e, hp1, u, rfl⟩
    refine ⟨_, rfl, k p H1 hp e ?_⟩
    rw [hp1, List.length_map]
    unfold sumsL
    rw [List.map_map]
    rfl
/-! ### times_above, least_of -/
@[irreducible] def sp_times_above (K : PySem.W.Frag) : Sp := fun ws H Q _ => ∃ room more : Int, ws = [.int room, .int more] ∧ -1000 ≤ more ∧ Q (oV (Rh.timesAbove room more)) H
def t_times_above_0a_0 (K : PySem.W.Frag) (E : XK) : TS := (tRet (tC (.int 0)))

def t_times_above_1 (K : PySem.W.Frag) (E : XK) : TS := (tRet (tIf (tTest (tOp oGe (tVar 1) (tC (.int 0)))) (tC .non) (tOp oAdd (tOp oFdv (tVar 0) (tUn oNeg (tVar 1))) (tC (.int 1)))))

@[irreducible] def t_times_above_0 (K : PySem.W.Frag) (E : XK) : TS := tSeq (tIfS (tTest (tOp oLt (tVar 0) (tC (.int 0))))
    (t_times_above_0a_0 K E) tNext) (t_times_above_1 K E)

theorem pure_times_above {K : PySem.W.Frag} (ws : List V) (H : Hp) (Q : VK) (E : XK) (h : sp_times_above K ws H Q E) : t_times_above_0 K E { nx := fun _ H' => Q .non H', rt := Q } (start ["room", "more"] ws) H := by
  unfold sp_times_above at h
  obtain ⟨room, more, rfl, hm, k⟩ := h
  show t_times_above_0 K E _ [some (.int room), some (.int more)] H
  unfold t_times_above_0
  unfold Rh.timesAbove at k
  refine if_go (decide (room < 0)) (by walk_at "ans") (fun c => ?_) (fun c => ?_)
  · rw [if_pos (of_decide_eq_true c)] at k
    exact k
  · rw [if_neg (of_decide_eq_false c)] at k
    refine ⟨_, rfl, _, _, rfl, rfl, _, rfl, ?_⟩
    by_cases h2 : 0 ≤ more
    · rw [if_pos h2] at k
      exact iteT' (decide_eq_true h2) k
    · rw [if_neg h2] at k
      refine iteF' (decide_eq_false h2) ?_
      refine ⟨_, rfl, _, rfl, _, rfl, _, _, rfl, rfl, ⟨by omega, by omega⟩, _, _, rfl, rfl, k⟩
@[irreducible] def sp_least_of (K : PySem.W.Frag) : Sp := fun ws H Q _ => ∃ (a : Addr) (l : List (Option Int)), ws = [.ref a] ∧ SqL K H a (l.map oV) ∧ l.length ≤ 100 ∧ ∀ H', Ex H H' → Q (oV (Rh.leastOf l)) H'
def t_least_of_1 (K : PySem.W.Frag) (E : XK) : TS := (tRet (tIf (tTest (tOp (rNeD K) (tVar 1) (tLst tNil))) (tCB (rMin K) (tCons (tVar 1) tNil)) (tC .non)))

def t_least_of_0 (K : PySem.W.Frag) (E : XK) : TS := tSeq (tAsg (tLc (iList K (tVar 0)) (gName 2) (tTest (tOp oNotN (tVar 2) (tC .non))) (tVar 2) [2]) (gName 1)) (t_least_of_1 K E)

theorem getD_some {α : Type} {l : List α} {i : Nat} {x d : α} (h : l[i]? = some x) : l.getD i d = x := by
  rw [List.getD_eq_getElem?_getD, h]
  rfl
theorem filt_opt (l : List (Option Int)) : ((List.range l.length).filter fun i => (l.getD i none).isSome).map (fun i => oV (l.getD i none)) = (l.filterMap id).map V.int := by
  have e : ((List.range l.length).filter fun i => (l.getD i none).isSome).map (fun i => l.getD i none) = l.filter Option.isSome := by
    have := List.filter_map (f := fun i => l.getD i none) (p := Option.isSome) (l := List.range l.length)
    have m : (List.range l.length).map (fun i => l.getD i none) = l := by
      have := map_range_get l id none (n := l.length) rfl
      rw [List.map_id] at this
      exact this
    rw [m] at this
    exact this.symm
  have e2 : ((List.range l.length).filter fun i => (l.getD i none).isSome).map (fun i => oV (l.getD i none)) = (l.filter Option.isSome).map oV := by
    rw [← e, List.map_map]
    rfl
  rw [e2]
  clear e e2
  induction l with
  | nil => rfl
  | cons o l ih =>
    cases o with
    | none =>
      rw [List.filter_cons_of_neg (by simp)]
      exact ih
    | some i =>
      rw [List.filter_cons_of_pos rfl]
      show V.int i :: _ = V.int i :: _
      rw [ih]
theorem eqv_nil : ∀ ns : List Int, PyData.eqv (.list (ns.map PyData.int)) (.list []) = decide (ns = [])
  | [] => rfl
  | _ :: _ => rfl
theorem lay_ints : ∀ ns : List Int, PyData.canLayAll0 (ns.map PyData.int) = true ∧ PyData.depthAll (ns.map PyData.int) = 0
  | [] => ⟨rfl, rfl⟩
  | n :: ns => by
    obtain ⟨h1, h2⟩ := lay_ints ns
    constructor
    · show (PyData.canLay0 (.int n) && PyData.canLayAll0 (ns.map PyData.int)) = true
      rw [h1]
      rfl
    · show max (PyData.depth (.int n)) (PyData.depthAll (ns.map PyData.int)) = 0
      rw [h2]
      rfl
theorem shaped_ints (ns : List Int) : SeqAt.shaped (.list (ns.map PyData.int)) = true := by
  obtain ⟨h1, h2⟩ := lay_ints ns
  show (PyData.canLayAll0 (ns.map PyData.int) && decide (PyData.depthAll (ns.map PyData.int) + 1 ≤ 64)) = true
  rw [h1, h2]
  rfl
theorem pure_least_of {K : PySem.W.Frag} (ws : List V) (H : Hp) (Q : VK) (E : XK) (h : sp_least_of K ws H Q E) : t_least_of_0 K E { nx := fun _ H' => Q .non H', rt := Q } (start ["some", "found", "number"] ws) H := by
  unfold sp_least_of at h
  obtain ⟨a, l, rfl, hS, hl, k⟩ := h
  show t_least_of_0 K E _ [some (.ref a), none, none] H
  have hll : (l.map oV).length = l.length := List.length_map ..
  have h100 : l.length < sizeLine := Nat.lt_of_le_of_lt hl (by decide)
  refine ⟨_, rfl, a, rfl, ⟨_, hS⟩, fun p hp => lc_pure walk_list (fun i => (l.getD i none).isSome) (fun i => oV (l.getD i none)) hp (by rw [hll]; exact h100) (fun H3 e => sq_ex e hS) ?_ ?_⟩
  · rintro i x H3 H4 hi e ⟨rfl, hx⟩ Q Zf q1 q2
    rw [List.getElem?_map] at hx
    cases hy : l[i]? with
    | none =>
      rw [hy] at hx
      cases hx
    | some y =>
      rw [hy] at hx
      have ex : oV y = x := Option.some.inj hx
      subst ex
      rw [getD_some hy] at q1 q2
      refine ⟨rfl, ?_⟩
      refine ⟨_, rfl, rfl, _, rfl, ?_⟩
      rw [oV_none]
      cases y with
      | none => exact iteF (q2 rfl _ (ex_refl _))
      | some z => exact iteT ⟨_, rfl, q1 rfl _ (ex_refl _)⟩
  · intro H3 e h3
    rw [hll, filt_opt] at h3
    show t_least_of_1 K E _ [some (.ref a), some (.ref p), none] H3
    refine ⟨_, rfl, Nat.zero_le _, fun z hz => ?_⟩
    have e4 := ex_new (o := .lst []) hz
    refine ⟨_, _, .lst (SqL.of (e4 _ _ h3)) (dpa_ints (l.filterMap id)), .lst (SqL.of upd_same) .nil, shaped_ints _, rfl, _, rfl, ?_⟩
    rw [eqv_nil]
    unfold Rh.leastOf at k
    by_cases hn : l.filterMap id = []
    · rw [decide_eq_true hn]
      rw [hn] at k
      exact iteF (k _ (ex_trans e e4))
    · rw [decide_eq_false hn]
      refine iteT ⟨_, rfl, p, _, rfl, SqL.of (e4 _ _ h3), List.length_pos_iff.mpr hn, fun m hm hle => ?_⟩
      have hmin : (l.filterMap id).min? = some m := List.min?_eq_some_iff.mpr ⟨hm, fun b hb => hle b hb⟩
      rw [hmin] at k
      exact k _ (ex_trans e e4)
/-! ### climbs, falls -/
@[irreducible] def sp_climbs (K : PySem.W.Frag) : Sp := fun ws H Q _ => ∃ (place size : Int) (a : Addr) (sums : List Int), ws = [.int place, .int size, .ref a] ∧ SqL K H a (sums.map V.int) ∧ 1 ≤ sums.length ∧ sums.length ≤ 4 ∧
  -500 ≤ sums.getD (sums.length - 1) 0 ∧ sums.getD (sums.length - 1) 0 ≤ 500 ∧ ∀ H', Ex H H' → Q (oV (Rh.climbsF place size sums)) H'
@[irreducible] def sp_falls (K : PySem.W.Frag) : Sp := fun ws H Q _ => ∃ (place size : Int) (a : Addr) (sums : List Int), ws = [.int place, .int size, .ref a] ∧ SqL K H a (sums.map V.int) ∧ 1 ≤ sums.length ∧ sums.length ≤ 4 ∧
  -500 ≤ sums.getD (sums.length - 1) 0 ∧ sums.getD (sums.length - 1) 0 ≤ 500 ∧ ∀ H', Ex H H' → Q (oV (Rh.fallsF place size sums)) H'
theorem last_at {xs : List Int} (h : 1 ≤ xs.length) : atI (xs.map V.int) (-1) = some (.int (xs.getD (xs.length - 1) 0)) := by
  unfold atI ixN
  rw [if_neg (by omega), List.length_map, if_pos (by omega)]
  show (xs.map V.int)[(-1 + (xs.length : Int)).toNat]? = _
  have e : (-1 + (xs.length : Int)).toNat = xs.length - 1 := by omega
  rw [e, List.getElem?_map, List.getElem?_eq_getElem (by omega), List.getD_eq_getElem?_getD, List.getElem?_eq_getElem (by omega)]
  rfl
theorem optL_len (f g : Nat → Option Int) : ∀ n, (Rh.optL f g n).length = 2 * n
  | 0 => rfl
  | n + 1 => by
    rw [Rh.optL_succ, List.length_append, optL_len f g n]
    rfl
def t_climbs_2a_1 (K : PySem.W.Frag) (E : XK) : TS := (tDrop (tBM K "list" rAppend (tVar 5) (tCons (tCall (sp_times_above K) [] E0 (tCons (tOp oSub (tOp oSub (tOp oAdd (tVar 1) (tVar 6)) (tVar 0)) (tVar 7)) (tCons (tOp oSub (tVar 3) (tVar 4)) tNil))) tNil)))

def t_climbs_2a_0 (K : PySem.W.Frag) (E : XK) : TS := tSeq (tDrop (tBM K "list" rAppend (tVar 5) (tCons (tCall (sp_times_above K) [] E0 (tCons (tOp oAdd (tVar 0) (tVar 7)) (tCons (tVar 4) tNil))) tNil))) (t_climbs_2a_1 K E)

def t_climbs_3 (K : PySem.W.Frag) (E : XK) : TS := (tRet (tCall (sp_least_of K) [] E0 (tCons (tVar 5) tNil)))

@[irreducible] def t_climbs_2 (K : PySem.W.Frag) (E : XK) : TS := tSeq (tFor (iEnum K (tCons (tVar 2) tNil)) (gTup K 2 (gCons (gName 6) (gCons (gName 7) gNil)))
    (t_climbs_2a_0 K E)) (t_climbs_3 K E)

def t_climbs_1 (K : PySem.W.Frag) (E : XK) : TS := tSeq (tAsg (tLst tNil) (gName 5)) (t_climbs_2 K E)

def t_climbs_0 (K : PySem.W.Frag) (E : XK) : TS := tSeq (tPar 3 4 (tCons (tCB (cLen K) (tCons (tVar 2) tNil)) (tCons (tOp (rIxL K) (tVar 2) (tUn oNeg (tC (.int 1)))) tNil))) (t_climbs_1 K E)
def t_falls_2a_1 (K : PySem.W.Frag) (E : XK) : TS := (tDrop (tBM K "list" rAppend (tVar 5) (tCons (tCall (sp_times_above K) [] E0 (tCons (tOp oAdd (tOp oSub (tOp oSub (tOp oSub (tVar 1) (tVar 6)) (tC (.int 2))) (tVar 0)) (tVar 7)) (tCons (tOp oSub (tVar 4) (tVar 3)) tNil))) tNil)))

def t_falls_2a_0 (K : PySem.W.Frag) (E : XK) : TS := tSeq (tDrop (tBM K "list" rAppend (tVar 5) (tCons (tCall (sp_times_above K) [] E0 (tCons (tOp oSub (tVar 0) (tVar 7)) (tCons (tUn oNeg (tVar 4)) tNil))) tNil))) (t_falls_2a_1 K E)

def t_falls_3 (K : PySem.W.Frag) (E : XK) : TS := (tRet (tCall (sp_least_of K) [] E0 (tCons (tVar 5) tNil)))

@[irreducible] def t_falls_2 (K : PySem.W.Frag) (E : XK) : TS := tSeq (tFor (iEnum K (tCons (tVar 2) tNil)) (gTup K 2 (gCons (gName 6) (gCons (gName 7) gNil)))
    (t_falls_2a_0 K E)) (t_falls_3 K E)

def t_falls_1 (K : PySem.W.Frag) (E : XK) : TS := tSeq (tAsg (tLst tNil) (gName 5)) (t_falls_2 K E)

def t_falls_0 (K : PySem.W.Frag) (E : XK) : TS := tSeq (tPar 3 4 (tCons (tCB (cLen K) (tCons (tVar 2) tNil)) (tCons (tOp (rIxL K) (tVar 2) (tUn oNeg (tC (.int 1)))) tNil))) (t_falls_1 K E)

theorem pure_climbs {K : PySem.W.Frag} (ws : List V) (H : Hp) (Q : VK) (E : XK) (h : sp_climbs K ws H Q E) : t_climbs_0 K E { nx := fun _ H' => Q .non H', rt := Q } (start ["place", "size", "sums", "many", "rise", "found", "at", "total"] ws) H := by
  unfold sp_climbs at h
  obtain ⟨place, size, a, sums, rfl, hS, h1, h4, r1, r2, k⟩ := h
  show t_climbs_0 K E _ [some (.int place), some (.int size), some (.ref a), none, none, none, none, none] H
  refine ⟨_, rfl, a, _, rfl, .inl hS, _, rfl, _, rfl, a, _, _, _, rfl, rfl, hS, last_at h1, _, _, rfl, ?_⟩
  rw [List.length_map]
  unfold Rh.climbsF at k
  generalize hr : sums.getD (sums.length - 1) 0 = rise at *
  refine ⟨Nat.zero_le _, fun p hp => ?_⟩
  show t_climbs_2 K E _ [some (.int place), some (.int size), some (.ref a), some (.int (sums.length : Nat)), some (.int rise), some (.ref p), none, none] _
  have e1 := ex_new (o := .lst []) hp
  unfold t_climbs_2
  refine ⟨_, rfl, a, _, rfl, sq_ex e1 hS, for_it walk_enum (fun i σ H' => Ex H H' ∧ H' p = some (.lst ((Rh.optL (fun i => Rh.timesAbove (place + sums.getD i 0) rise) (fun i => Rh.timesAbove (size + (i : Int) - place - sums.getD i 0) ((sums.length : Int) - rise)) i).map oV)) ∧
    ∃ u v, σ = [some (.int place), some (.int size), some (.ref a), some (.int (sums.length : Nat)), some (.int rise), some (.ref p), u, v]) ⟨e1, upd_same, none, none, rfl⟩ (fun i σ H' _ h => sq_ex h.1 hS) ?_ ?_⟩
  · rintro i x σ H1 H2 hi ⟨e, hp1, u, v, rfl⟩ ⟨t, y1, y2, rfl, ht, rfl, g1, g2⟩
    cases g1
    have g2 : (sums.map V.int)[i]? = some y2 := g2
    rw [List.getElem?_map] at g2
    cases hy : sums[i]? with
    | none =>
      rw [hy] at g2
      cases g2
    | some y =>
      rw [hy] at g2
      have ex : V.int y = y2 := Option.some.inj g2
      subst ex
      rw [List.length_map] at hi
      have e5 := ex_new (o := .tup [.int (i : Nat), .int y]) ht
      have lenb : ∀ m, m ≤ 9 → m < sizeLine := fun m hm => Nat.lt_of_le_of_lt hm (by decide)
      refine ⟨t, _, rfl, SqT.of upd_same, rfl, _, _, rfl, _, _, rfl, rfl, ?_⟩
      refine ⟨_, rfl, .inl ⟨rfl, _, SqL.of (e5 _ _ hp1)⟩, _, rfl, _, rfl, _, _, rfl, rfl, _, rfl, ?_⟩
      unfold sp_times_above
      refine ⟨_, _, rfl, by omega, p, _, _, rfl, rfl, e5 _ _ hp1, ?_, ?_⟩
      · rw [List.length_map, optL_len]
        exact lenb _ (by omega)
      refine ⟨_, rfl, .inl ⟨rfl, _, SqL.of upd_same⟩, _, rfl, _, rfl, _, _, rfl, rfl, _, rfl, _, _, rfl, rfl, _, rfl, _, _, rfl, rfl, _, rfl, _, rfl, _, _, rfl, rfl, ?_⟩
      unfold sp_times_above
      refine ⟨_, _, rfl, by omega, p, _, _, rfl, rfl, upd_same, ?_, ?_⟩
      · rw [List.length_append, List.length_map, optL_len]
        exact lenb _ (by show 2 * i + 1 ≤ 9; omega)
      · refine ⟨ex_mut (ex_mut (ex_trans e e5) hp) hp, ?_, _, _, rfl⟩
        rw [upd_same, Rh.optL_succ, List.map_append, getD_some hy, List.append_assoc]
        rfl
  · rintro σ H1 ⟨e, hp1, u, v, rfl⟩
    rw [List.length_map] at hp1
    refine ⟨_, rfl, ?_⟩
    unfold sp_least_of
    refine ⟨p, _, rfl, SqL.of hp1, ?_, fun H2 e2 => k _ (ex_trans e e2)⟩
    rw [optL_len]
    omega
theorem pure_falls {K : PySem.W.Frag} (ws : List V) (H : Hp) (Q : VK) (E : XK) (h : sp_falls K ws H Q E) : t_falls_0 K E { nx := fun _ H' => Q .non H', rt := Q } (start ["place", "size", "sums", "many", "rise", "found", "at", "total"] ws) H := by
  unfold sp_falls at h
  obtain ⟨place, size, a, sums, rfl, hS, h1, h4, r1, r2, k⟩ := h
  show t_falls_0 K E _ [some (.int place), some (.int size), some (.ref a), none, none, none, none, none] H
  refine ⟨_, rfl, a, _, rfl, .inl hS, _, rfl, _, rfl, a, _, _, _, rfl, rfl, hS, last_at h1, _, _, rfl, ?_⟩
  rw [List.length_map]
  unfold Rh.fallsF at k
  generalize hr : sums.getD (sums.length - 1) 0 = rise at *
  refine ⟨Nat.zero_le _, fun p hp => ?_⟩
  show t_falls_2 K E _ [some (.int place), some (.int size), some (.ref a), some (.int (sums.length : Nat)), some (.int rise), some (.ref p), none, none] _
  have e1 := ex_new (o := .lst []) hp
  unfold t_falls_2
  refine ⟨_, rfl, a, _, rfl, sq_ex e1 hS, for_it walk_enum (fun i σ H' => Ex H H' ∧ H' p = some (.lst ((Rh.optL (fun i => Rh.timesAbove (place - sums.getD i 0) (-rise)) (fun i => Rh.timesAbove (size - (i : Int) - 2 - place + sums.getD i 0) (rise - (sums.length : Int))) i).map oV)) ∧
    ∃ u v, σ = [some (.int place), some (.int size), some (.ref a), some (.int (sums.length : Nat)), some (.int rise), some (.ref p), u, v]) ⟨e1, upd_same, none, none, rfl⟩ (fun i σ H' _ h => sq_ex h.1 hS) ?_ ?_⟩
  · rintro i x σ H1 H2 hi ⟨e, hp1, u, v, rfl⟩ ⟨t, y1, y2, rfl, ht, rfl, g1, g2⟩
    cases g1
    have g2 : (sums.map V.int)[i]? = some y2 := g2
    rw [List.getElem?_map] at g2
    cases hy : sums[i]? with
    | none =>
      rw [hy] at g2
      cases g2
    | some y =>
      rw [hy] at g2
      have ex : V.int y = y2 := Option.some.inj g2
      subst ex
      rw [List.length_map] at hi
      have e5 := ex_new (o := .tup [.int (i : Nat), .int y]) ht
      have lenb : ∀ m, m ≤ 9 → m < sizeLine := fun m hm => Nat.lt_of_le_of_lt hm (by decide)
      refine ⟨t, _, rfl, SqT.of upd_same, rfl, _, _, rfl, _, _, rfl, rfl, ?_⟩
      refine ⟨_, rfl, .inl ⟨rfl, _, SqL.of (e5 _ _ hp1)⟩, _, rfl, _, rfl, _, _, rfl, rfl, _, rfl, _, rfl, ?_⟩
      unfold sp_times_above
      refine ⟨_, _, rfl, by omega, p, _, _, rfl, rfl, e5 _ _ hp1, ?_, ?_⟩
      · rw [List.length_map, optL_len]
        exact lenb _ (by omega)
      refine ⟨_, rfl, .inl ⟨rfl, _, SqL.of upd_same⟩, _, rfl, _, rfl, _, _, rfl, rfl, _, _, rfl, rfl, _, rfl, _, _, rfl, rfl, _, rfl, _, _, rfl, rfl, _, rfl, _, rfl, _, _, rfl, rfl, ?_⟩
      unfold sp_times_above
      refine ⟨_, _, rfl, by omega, p, _, _, rfl, rfl, upd_same, ?_, ?_⟩
      · rw [List.length_append, List.length_map, optL_len]
        exact lenb _ (by show 2 * i + 1 ≤ 9; omega)
      · refine ⟨ex_mut (ex_mut (ex_trans e e5) hp) hp, ?_, _, _, rfl⟩
        rw [upd_same, Rh.optL_succ, List.map_append, getD_some hy, List.append_assoc]
        rfl
  · rintro σ H1 ⟨e, hp1, u, v, rfl⟩
    rw [List.length_map] at hp1
    refine ⟨_, rfl, ?_⟩
    unfold sp_least_of
    refine ⟨p, _, rfl, SqL.of hp1, ?_, fun H2 e2 => k _ (ex_trans e e2)⟩
    rw [optL_len]
    omega
/-! ### beside, does_stay, row_ahead -/
@[irreducible] def sp_beside (K : PySem.W.Frag) : Sp := fun ws H Q _ => ∃ p s : Int, ws = [.int p, .int s] ∧ Q (.int (if p < s - p then p else p - s)) H
def t_beside_0 (K : PySem.W.Frag) (E : XK) : TS := (tRet (tIf (tTest (tOp oLt (tVar 0) (tOp oSub (tVar 1) (tVar 0)))) (tVar 0) (tOp oSub (tVar 0) (tVar 1))))
def t_does_stay_1a_0 (K : PySem.W.Frag) (E : XK) : TS := (tAug 2 (tOp oSub (tVar 3) (tCB cInt (tCons (tOp oLt (tVar 2) (tC (.int 0))) tNil))) (ipI fun i j => i + j))

def t_does_stay_2 (K : PySem.W.Frag) (E : XK) : TS := (tRet (tOp rEq (tVar 2) (tVar 1)))

@[irreducible] def t_does_stay_1 (K : PySem.W.Frag) (E : XK) : TS := tSeq (tFor (iList K (tVar 0)) (gName 3)
    (t_does_stay_1a_0 K E)) (t_does_stay_2 K E)

def t_does_stay_0 (K : PySem.W.Frag) (E : XK) : TS := tSeq (tAsg (tVar 1) (gName 2)) (t_does_stay_1 K E)
def t_row_ahead_1 (K : PySem.W.Frag) (E : XK) : TS := (tRet (tLc (iRng1 (tCons (tVar 3) tNil)) (gName 4) tYes (tOp (rIxT K) (tFld K (tVar 0) "rises") (tOp oMod (tOp oSub (tOp oSub (tOp oSub (tVar 1) (tVar 2)) (tC (.int 1))) (tVar 4)) (tVar 3))) [4]))

def t_row_ahead_0 (K : PySem.W.Frag) (E : XK) : TS := tSeq (tAsg (tCB (cLen K) (tCons (tFld K (tVar 0) "rises") tNil)) (gName 3)) (t_row_ahead_1 K E)

theorem pure_beside {K : PySem.W.Frag} (ws : List V) (H : Hp) (Q : VK) (E : XK) (h : sp_beside K ws H Q E) : t_beside_0 K E { nx := fun _ H' => Q .non H', rt := Q } (start ["place", "size"] ws) H := by
  unfold sp_beside at h
  obtain ⟨p, s, rfl, k⟩ := h
  refine ⟨_, rfl, _, rfl, _, rfl, _, _, rfl, rfl, _, _, rfl, rfl, _, rfl, ?_⟩
  by_cases c : p < s - p
  · rw [if_pos c] at k
    exact iteT' (decide_eq_true c) ⟨_, rfl, k⟩
  · rw [if_neg c] at k
    exact iteF' (decide_eq_false c) ⟨_, rfl, _, rfl, _, _, rfl, rfl, k⟩
@[irreducible] def sp_does_stay (K : PySem.W.Frag) : Sp := fun ws H Q _ => ∃ (a : Addr) (row : List Int) (here : Int), ws = [.ref a, .int here] ∧ SqL K H a (row.map V.int) ∧ Q (.bl (decide (Rh.stays row here = here))) H
theorem stays_snoc : ∀ (l : List Int) (r b : Int), Rh.stays (l ++ [r]) b = Rh.st1 (Rh.stays l b) r
  | [], r, b => rfl
  | x :: l, r, b => stays_snoc l r (Rh.st1 b x)
theorem pure_does_stay {K : PySem.W.Frag} (ws : List V) (H : Hp) (Q : VK) (E : XK) (h : sp_does_stay K ws H Q E) : t_does_stay_0 K E { nx := fun _ H' => Q .non H', rt := Q } (start ["row", "here", "now", "rise"] ws) H := by
  unfold sp_does_stay at h
  obtain ⟨a, row, here, rfl, hS, k⟩ := h
  refine ⟨_, rfl, ?_⟩
  show t_does_stay_1 K E _ [some (.ref a), some (.int here), some (.int here), none] H
  unfold t_does_stay_1
  refine ⟨_, rfl, a, rfl, ⟨_, hS⟩, for_it walk_list (fun i σ H' => H' = H ∧ ∃ u, σ = [some (.ref a), some (.int here), some (.int (Rh.stays (row.take i) here)), u]) ⟨rfl, none, rfl⟩ (fun i σ H' _ h => by rw [h.1]; exact hS) ?_ ?_⟩
  · rintro i x σ H1 H2 hi ⟨rfl, u, rfl⟩ ⟨rfl, hx⟩
    rw [List.getElem?_map] at hx
    cases hy : row[i]? with
    | none =>
      rw [hy] at hx
      cases hx
    | some y =>
      rw [hy] at hx
      have ex : V.int y = x := Option.some.inj hx
      subst ex
      have et : Rh.stays (row.take (i + 1)) here = Rh.stays (row.take i) here + (y - (if decide (Rh.stays (row.take i) here < 0) = true then 1 else 0)) := by
        rw [List.take_succ, hy]
        show Rh.stays (row.take i ++ [y]) here = _
        rw [stays_snoc]
        unfold Rh.st1
        by_cases c : Rh.stays (row.take i) here < 0
        · rw [if_pos c, decide_eq_true c, if_pos rfl]
          omega
        · rw [if_neg c, decide_eq_false c, if_neg Bool.false_ne_true]
          omega
      refine ⟨_, rfl, _, rfl, _, rfl, _, _, rfl, rfl, .inr ⟨_, rfl, _, _, rfl, rfl, _, _, rfl, rfl, rfl, some (.int y), ?_⟩⟩
      rw [et]
      rfl
  · rintro σ H1 ⟨rfl, u, rfl⟩
    rw [List.length_map, List.take_length]
    refine ⟨_, rfl, _, rfl, rfl, ?_⟩
    rw [d_int]
    exact k
theorem rrow_map (R : List Int) : ∀ (j : Nat) (a : Int), Rh.rrow R a j = (List.range j).map fun (i : Nat) => Rh.rI R (a - (i : Int))
  | 0, _ => rfl
  | j + 1, a => by
    show Rh.rI R a :: Rh.rrow R (a - 1) j = _
    rw [rrow_map R j (a - 1), List.range_succ_eq_map, List.map_cons, List.map_map]
    congr 1
    · congr 1
      omega
    · refine List.map_congr_left fun i _ => ?_
      show _ = Rh.rI R (a - ((i + 1 : Nat) : Int))
      congr 1
      omega
theorem rises_len (vs : List Ve) : (rises vs).length = vs.length := List.length_map ..
/-- the rises read at a place, round and round -/
theorem rise_at {R : List Int} (h : 1 ≤ R.length) (i : Int) : atI (R.map V.int) (i % (R.length : Int)) = some (.int (Rh.rI R i)) := by
  have h0 := Int.emod_nonneg i (show (R.length : Int) ≠ 0 by omega)
  have h1 := Int.emod_lt_of_pos i (show (0 : Int) < (R.length : Int) by omega)
  refine at_of (j := (i % (R.length : Int)).toNat) (by omega) ?_
  have h2 : (i % (R.length : Int)).toNat < R.length := by omega
  rw [List.getElem?_map, List.getElem?_eq_getElem h2]
  unfold Rh.rI
  rw [List.getD_eq_getElem?_getD, List.getElem?_eq_getElem h2]
  rfl
@[irreducible] def sp_row_ahead (K : PySem.W.Frag) : Sp := fun ws H Q _ => ∃ (a : Addr) (vs : List Ve) (left n size : Int), ws = [.ref a, .int n, .int size] ∧ RhAt K H a vs left ∧ RhOk vs left ∧
  ∀ (p : Addr) (H' : Hp), H p = none → Ex H H' → H' p = some (.lst ((Rh.rrow (rises vs) (n - size - 1) vs.length).map V.int)) → Q (.ref p) H'
theorem pure_row_ahead {K : PySem.W.Frag} (T : RhC K) (ws : List V) (H : Hp) (Q : VK) (E : XK) (h : sp_row_ahead K ws H Q E) : t_row_ahead_0 K E { nx := fun _ H' => Q .non H', rt := Q } (start ["rhyme", "n", "size", "many", "at"] ws) H := by
  unfold sp_row_ahead at h
  obtain ⟨a, vs, left, n, size, rfl, R, ok, k⟩ := h
  obtain ⟨dx, tv, tr, h1, h2, h3⟩ := R
  have hl : ((rises vs).map V.int).length = vs.length := by rw [List.length_map, rises_len]
  refine ⟨_, rfl, a, _, dx, _, _, rfl, h1, T.cl, T.nr, rhF_r _ _ _, tr, _, rfl, .inr h3, ?_⟩
  rw [hl]
  show t_row_ahead_1 K E _ [some (.ref a), some (.int n), some (.int size), some (.int (vs.length : Nat)), none] H
  have l1 := ok.l1
  have l4 := ok.l4
  refine ⟨_, rfl, _, rfl, by omega, by omega, fun p hp => lc_map walk_range (fun i => .int (Rh.rI (rises vs) (n - size - 1 - (i : Int)))) hp (Nat.lt_of_le_of_lt (by omega : _ ≤ 4) (by decide)) (fun _ _ => trivial) ?_ ?_⟩
  · rintro i x H3 H4 hi e ⟨rfl, rfl⟩ Q Zf q
    refine ⟨rfl, iteT (B := Zf H4) ?_⟩
    refine ⟨_, rfl, a, _, dx, _, _, rfl, e _ _ h1, T.cl, T.nr, rhF_r _ _ _, _, rfl, _, rfl, _, _, rfl, rfl, _, _, rfl, rfl, _, rfl, _, _, rfl, rfl, _, rfl, _, _, rfl, rfl, by omega, ?_⟩
    have er := rise_at (R := rises vs) (by rw [rises_len]; omega) (n - size - 1 - (0 + (i : Int)))
    rw [rises_len] at er
    refine ⟨tr, _, _, _, rfl, rfl, sqt_ex e h3, er, ?_⟩
    have e0 : n - size - 1 - (0 + (i : Int)) = n - size - 1 - (i : Int) := by omega
    rw [e0]
    exact q _ (ex_refl _)
  · intro H3 e h4
    refine k p H3 hp e ?_
    rw [h4, rrow_map, List.map_map]
    rfl

end Z
namespace Z
open PySem PySem.Spec PyProof.Rows L2
local macro_rules | `(tactic| walk_at "look") => `(tactic| first | assumption | exact upd_same | exact SqL.of (by assumption) | exact SqT.of (by assumption) | exact SqL.of upd_same | exact SqT.of upd_same)
local macro_rules | `(tactic| walk_at "at") => `(tactic| first | exact at0 | exact at1 | exact at2 | exact at3 | exact ix0 | exact ix1 | assumption | exact atI_nat (by rfl))
local macro_rules | `(tactic| walk_at "sd") => `(tactic| ((try dsimp only); first | assumption | omega | (unfold CMul; omega) | (unfold CDiv; omega) | (unfold CPow; decide) | decide))
local macro_rules | `(tactic| walk_at "st") => `(tactic| first
  | (refine ⟨_, rfl, ?_⟩)
  | (refine ⟨_, _, rfl, rfl, ?_⟩)
  | (refine ⟨rfl, ?_⟩)
  | (refine .inl ⟨_, rfl, ?_⟩)
  | (refine ⟨_, _, _, _, rfl, rfl, (by walk_at "look"), (by walk_at "at"), ?_⟩)
  | (refine ⟨_, _, rfl, .inl (by walk_at "look"), ?_⟩)
  | (refine And.intro (by walk_at "sd") ?_)
  | fail "no step")
local macro_rules | `(tactic| walk_at "go") => `(tactic| repeat' (walk_at "st"))
local macro_rules | `(tactic| walk_at "ans") => `(tactic| (intro Q q; (repeat' (walk_at "st")); exact q))

/-! ### how a place is lifted -/
theorem rise_bd {vs : List Ve} {left : Int} (ok : RhOk vs left) (i : Int) : -5 ≤ Rh.rI (rises vs) i ∧ Rh.rI (rises vs) i ≤ 6 := by
  have l1 := ok.l1
  unfold Rh.rI
  have h0 := Int.emod_nonneg i (show ((rises vs).length : Int) ≠ 0 by rw [rises_len]; omega)
  have h1 := Int.emod_lt_of_pos i (show (0 : Int) < ((rises vs).length : Int) by rw [rises_len]; omega)
  have h2 : (i % ((rises vs).length : Int)).toNat < (rises vs).length := by omega
  rw [List.getD_eq_getElem?_getD, List.getElem?_eq_getElem h2]
  have hm : (rises vs)[(i % ((rises vs).length : Int)).toNat] ∈ rises vs := List.getElem_mem h2
  obtain ⟨v, hv, e⟩ := List.mem_map.mp hm
  show -5 ≤ (rises vs)[(i % ((rises vs).length : Int)).toNat] ∧ _
  rw [← e]
  have := ok.cnt v hv
  show -5 ≤ riseOf v ∧ riseOf v ≤ 6
  unfold riseOf
  split <;> omega
theorem psum_bd {R : List Int} (hR : ∀ i, -5 ≤ Rh.rI R i ∧ Rh.rI R i ≤ 6) (a : Int) : ∀ j : Nat, -5 * (j : Int) ≤ Rh.psum R a j ∧ Rh.psum R a j ≤ 6 * (j : Int)
  | 0 => by rw [Rh.psum_zero]; omega
  | j + 1 => by
    have := psum_bd hR a j
    have := hR (a - (j : Int))
    rw [Rh.psum_succ]
    omega
theorem rrow_take (R : List Int) (a : Int) (m : Nat) : ∀ j : Nat, j ≤ m → ((Rh.rrow R a m).take j).sum = Rh.psum R a j
  | 0, _ => by rw [Rh.psum_zero]; simp
  | j + 1, h => by
    have h2 : (Rh.rrow R a m)[j]? = some (Rh.rI R (a - (j : Int))) := by
      rw [rrow_map, List.getElem?_map, List.getElem?_range (by omega)]
      rfl
    rw [take_sum h2, rrow_take R a m j (by omega), Rh.psum_succ]
theorem rrow_len (R : List Int) (a : Int) (m : Nat) : (Rh.rrow R a m).length = m := by
  rw [rrow_map, List.length_map, List.length_range]
theorem sums_get (R : List Int) (a : Int) (m i : Nat) (h : i < m) : (sumsL (Rh.rrow R a m)).getD i 0 = Rh.psum R a (i + 1) := by
  unfold sumsL
  rw [rrow_len, List.getD_eq_getElem?_getD, List.getElem?_map, List.getElem?_range h]
  exact rrow_take R a m (i + 1) (by omega)
theorem rsums_len (R : List Int) (a : Int) (m : Nat) : (sumsL (Rh.rrow R a m)).length = m := by
  rw [sumsL_len, rrow_len]
abbrev rsum (R : List Int) (a : Int) (m : Nat) : List Int := sumsL (Rh.rrow R a m)
theorem up_get {R : List Int} {a p s c : Int} {m : Nat} (hm : 1 ≤ m) (h : Rh.Up p s (rsum R a m) c) (i : Nat) (hi : i < m) :
    0 ≤ p + c * Rh.psum R a m + Rh.psum R a (i + 1) ∧ p + c * Rh.psum R a m + Rh.psum R a (i + 1) ≤ s + c * (m : Int) + (i : Int) := by
  have := h i (by rw [rsums_len]; exact hi)
  rw [rsums_len, sums_get R a m i hi, sums_get R a m (m - 1) (by omega)] at this
  have e : m - 1 + 1 = m := by omega
  rw [e] at this
  exact this
theorem leap_up {R : List Int} {n s p : Int} {m : Nat} (hm : m = R.length) (h1 : 1 ≤ m) (L : Nat) (h : ∀ c : Int, 0 ≤ c → c < (L : Int) → Rh.Up p s (rsum R (n - s - 1) m) c) :
    Rh.lift R n (L * m) s p = p + (L : Int) * Rh.psum R (n - s - 1) m :=
  Rh.lift_leap R n s p _ m hm rfl L fun c hc i hi => up_get h1 (h (c : Int) (by omega) (by omega)) i hi
theorem leap_bd {R : List Int} {n s p : Int} {m : Nat} (h1 : 1 ≤ m) (L : Nat) (hL : 1 ≤ L) (h : ∀ c : Int, 0 ≤ c → c < (L : Int) → Rh.Up p s (rsum R (n - s - 1) m) c) :
    0 ≤ p + (L : Int) * Rh.psum R (n - s - 1) m ∧ p + (L : Int) * Rh.psum R (n - s - 1) m < s + (L : Int) * (m : Int) := by
  have := up_get h1 (h ((L : Int) - 1) (by omega) (by omega)) (m - 1) (by omega)
  have e : m - 1 + 1 = m := by omega
  rw [e, Int.sub_mul, Int.sub_mul] at this
  omega
/-- where no whole rhyme is straight the place is beside the singer -/
theorem near_up {R : List Int} {a p s : Int} {m : Nat} (hR : ∀ i, -5 ≤ Rh.rI R i ∧ Rh.rI R i ≤ 6) (h1 : 1 ≤ m) (h4 : m ≤ 4) (hp : 0 ≤ p) (hs : p < s) (h64 : 64 < s) (h : ¬ Rh.Up p s (rsum R a m) 0) :
    -26 ≤ (if p < s - p then p else p - s) ∧ (if p < s - p then p else p - s) ≤ 26 := by
  have key : p < 26 ∨ s - 26 ≤ p := by
    by_cases c : p < 26 ∨ s - 26 ≤ p
    · exact c
    · exfalso
      refine h fun i hi => ?_
      rw [rsums_len] at hi
      rw [rsums_len, sums_get R a m i hi, Int.zero_mul, Int.zero_mul]
      have := psum_bd hR a (i + 1)
      omega
  split <;> omega
theorem pl_beside {p s : Int} (hp : 0 ≤ p) (hs : p < s) : Rh.pl s (if p < s - p then p else p - s) = p := by
  unfold Rh.pl
  split <;> split <;> omega
@[irreducible] def sp_lifted (K : PySem.W.Frag) : Sp := fun ws H Q _ => ∃ (a : Addr) (vs : List Ve) (left place size n : Int), ws = [.ref a, .int place, .int size, .int n] ∧ RhAt K H a vs left ∧ RhOk vs left ∧ 0 ≤ place ∧ place < size ∧
  ∀ H', Ex H H' → Q (.int (Rh.lift (rises vs) n (n - size).toNat size place)) H'
def t_lifted_1a_5a_1 (K : PySem.W.Frag) (E : XK) : TS := (tAug 2 (tOp oMul (tVar 9) (tVar 4)) (ipI fun i j => i + j))

def t_lifted_1a_5a_0 (K : PySem.W.Frag) (E : XK) : TS := tSeq (tAug 1 (tOp oMul (tVar 9) (tOp (rIxL K) (tVar 6) (tUn oNeg (tC (.int 1))))) (ipI fun i j => i + j)) (t_lifted_1a_5a_1 K E)

def t_lifted_1a_5b_0a_1 (K : PySem.W.Frag) (E : XK) : TS := (tAug 2 (tOp oMul (tVar 7) (tVar 4)) (ipI fun i j => i + j))

def t_lifted_1a_5b_0a_0 (K : PySem.W.Frag) (E : XK) : TS := tSeq (tAug 1 (tOp oMul (tOp oMul (tVar 7) (tVar 4)) (tCB cInt (tCons (tOp oLt (tCall (sp_beside K) [] E0 (tCons (tVar 1) (tCons (tVar 2) tNil))) (tC (.int 0))) tNil))) (ipI fun i j => i + j)) (t_lifted_1a_5b_0a_1 K E)

def t_lifted_1a_5b_0b_1 (K : PySem.W.Frag) (E : XK) : TS := (tAsg (tOp oMod (tOp oAdd (tVar 1) (tOp (rIxL K) (tVar 5) (tC (.int 0)))) (tVar 2)) (gName 1))

def t_lifted_1a_5b_0b_0 (K : PySem.W.Frag) (E : XK) : TS := tSeq (tAug 2 (tC (.int 1)) (ipI fun i j => i + j)) (t_lifted_1a_5b_0b_1 K E)

@[irreducible] def t_lifted_1a_5b_0 (K : PySem.W.Frag) (E : XK) : TS := (tIfS (tAnd (tTest (tOp oGt (tVar 7) (tC (.int 0)))) (tAnd (tTest (tOp oGt (tVar 2) (tC (.int 64)))) (tB (tCall (sp_does_stay K) [] E0 (tCons (tVar 5) (tCons (tCall (sp_beside K) [] E0 (tCons (tVar 1) (tCons (tVar 2) tNil))) tNil))))))
    (t_lifted_1a_5b_0a_0 K E) (t_lifted_1a_5b_0b_0 K E))

@[irreducible] def t_lifted_1a_5 (K : PySem.W.Frag) (E : XK) : TS := (tIfS (tTest (tOp oGt (tVar 9) (tC (.int 0))))
    (t_lifted_1a_5a_0 K E) (t_lifted_1a_5b_0 K E))

def t_lifted_1a_4 (K : PySem.W.Frag) (E : XK) : TS := tSeq (tAsg (tIf (tTest (tOp oIsN (tVar 8) (tC .non))) (tVar 7) (tCB cMin2 (tCons (tVar 8) (tCons (tVar 7) tNil)))) (gName 9)) (t_lifted_1a_5 K E)

def t_lifted_1a_3 (K : PySem.W.Frag) (E : XK) : TS := tSeq (tAsg (tCall (sp_climbs K) [] E0 (tCons (tVar 1) (tCons (tVar 2) (tCons (tVar 6) tNil)))) (gName 8)) (t_lifted_1a_4 K E)

def t_lifted_1a_2 (K : PySem.W.Frag) (E : XK) : TS := tSeq (tAsg (tOp oFdv (tOp oSub (tVar 3) (tVar 2)) (tVar 4)) (gName 7)) (t_lifted_1a_3 K E)

def t_lifted_1a_1 (K : PySem.W.Frag) (E : XK) : TS := tSeq (tAsg (tCall (sp_sums_of K) [] E0 (tCons (tVar 5) tNil)) (gName 6)) (t_lifted_1a_2 K E)

def t_lifted_1a_0 (K : PySem.W.Frag) (E : XK) : TS := tSeq (tAsg (tCall (sp_row_ahead K) [] E0 (tCons (tVar 0) (tCons (tVar 3) (tCons (tVar 2) tNil)))) (gName 5)) (t_lifted_1a_1 K E)

def t_lifted_2 (K : PySem.W.Frag) (E : XK) : TS := (tRet (tVar 1))

@[irreducible] def t_lifted_1 (K : PySem.W.Frag) (E : XK) : TS := tSeq (tWhile (tTest (tOp oLt (tVar 2) (tVar 3)))
    (t_lifted_1a_0 K E)) (t_lifted_2 K E)

def t_lifted_0 (K : PySem.W.Frag) (E : XK) : TS := tSeq (tAsg (tCB (cLen K) (tCons (tFld K (tVar 0) "rises") tNil)) (gName 4)) (t_lifted_1 K E)

/-- between two turns -/
def LiftSt (K : PySem.W.Frag) (H0 : Hp) (a : Addr) (vs : List Ve) (left n goal : Int) (σ : L2.St) (H : Hp) : Prop := ∃ (place size : Int) (u5 u6 u7 u8 u9 : Option V),
  σ = [some (.ref a), some (.int place), some (.int size), some (.int n), some (.int (vs.length : Nat)), u5, u6, u7, u8, u9] ∧ 0 ≤ place ∧ place < size ∧ Ex H0 H ∧ Rh.lift (rises vs) n (n - size).toNat size place = goal
def liftMu (σ : L2.St) (_ : Hp) : Nat := match σ with
  | [_, _, some (.int size), some (.int n), _, _, _, _, _, _] => (n - size).toNat
  | _ => 0
theorem lifted_turn {K : PySem.W.Frag} {E : XK} {D : Ends} {H0 H : Hp} {a : Addr} {vs : List Ve} {left n goal place size : Int} {u5 u6 u7 u8 u9 : Option V} (R : RhAt K H0 a vs left) (ok : RhOk vs left) (T : RhC K)
    (hp : 0 ≤ place) (hs : place < size) (hn : size < n) (e : Ex H0 H) (hg : Rh.lift (rises vs) n (n - size).toNat size place = goal)
    (k : ∀ σ H', LiftSt K H0 a vs left n goal σ H' → liftMu σ H' < (n - size).toNat → D.nx σ H') :
    t_lifted_1a_0 K E D [some (.ref a), some (.int place), some (.int size), some (.int n), some (.int (vs.length : Nat)), u5, u6, u7, u8, u9] H := by
  have l1 := ok.l1
  have l4 := ok.l4
  have hR := rise_bd ok
  have hm : vs.length = (rises vs).length := (rises_len vs).symm
  refine ⟨_, rfl, _, rfl, _, rfl, ?_⟩
  unfold sp_row_ahead
  refine ⟨a, vs, left, n, size, rfl, rh_ex e R, ok, fun pr H1 _ e1 hr => ?_⟩
  show t_lifted_1a_1 K E D [some (.ref a), some (.int place), some (.int size), some (.int n), some (.int (vs.length : Nat)), some (.ref pr), u6, u7, u8, u9] H1
  refine ⟨_, rfl, ?_⟩
  unfold sp_sums_of
  refine ⟨pr, _, rfl, SqL.of hr, (by rw [rrow_len]; omega), fun ps H2 _ e2 hsm => ?_⟩
  show t_lifted_1a_2 K E D [some (.ref a), some (.int place), some (.int size), some (.int n), some (.int (vs.length : Nat)), some (.ref pr), some (.ref ps), u7, u8, u9] H2
  refine ⟨_, rfl, _, rfl, _, _, rfl, rfl, _, rfl, _, _, rfl, rfl, ⟨by omega, by omega⟩, ?_⟩
  show t_lifted_1a_3 K E D [some (.ref a), some (.int place), some (.int size), some (.int n), some (.int (vs.length : Nat)), some (.ref pr), some (.ref ps), some (.int ((n - size) / (vs.length : Int))), u8, u9] H2
  generalize hmost : (n - size) / (vs.length : Int) = most
  refine ⟨_, rfl, _, rfl, _, rfl, ?_⟩
  unfold sp_climbs
  have hT : (rsum (rises vs) (n - size - 1) vs.length).getD ((rsum (rises vs) (n - size - 1) vs.length).length - 1) 0 = Rh.psum (rises vs) (n - size - 1) vs.length := by
    rw [rsums_len, sums_get _ _ _ _ (by omega)]
    congr 1
    omega
  have hTb := psum_bd hR (n - size - 1) vs.length
  refine ⟨place, size, ps, _, rfl, SqL.of hsm, (by rw [rsums_len]; omega), (by rw [rsums_len]; omega), (by rw [hT]; omega), (by rw [hT]; omega), fun H3 e3 => ?_⟩
  have told := Rh.climbs_told place size (rsum (rises vs) (n - size - 1) vs.length)
  generalize hf : Rh.climbsF place size (rsum (rises vs) (n - size - 1) vs.length) = found at told
  show t_lifted_1a_4 K E D [some (.ref a), some (.int place), some (.int size), some (.int n), some (.int (vs.length : Nat)), some (.ref pr), some (.ref ps), some (.int most), some (oV found), u9] H3
  have hmost1 : most * (vs.length : Int) ≤ n - size := by
    rw [← hmost]
    exact Int.ediv_mul_le _ (by omega)
  have hmost0 : 0 ≤ most := by
    rw [← hmost]
    exact Int.ediv_nonneg (by omega) (by omega)
  have e03 : Ex H0 H3 := ex_trans e (ex_trans e1 (ex_trans e2 e3))
  -- the leap
  have go : ∀ leap : Int, (0 < leap → leap ≤ most ∧ ∀ c : Int, 0 ≤ c → c < leap → Rh.Up place size (rsum (rises vs) (n - size - 1) vs.length) c) → (leap ≤ 0 → 0 < most → ¬ Rh.Up place size (rsum (rises vs) (n - size - 1) vs.length) 0) →
      t_lifted_1a_5 K E D [some (.ref a), some (.int place), some (.int size), some (.int n), some (.int (vs.length : Nat)), some (.ref pr), some (.ref ps), some (.int most), some (oV found), some (.int leap)] H3 := by
    intro leap g1 g2
    unfold t_lifted_1a_5
    refine if_go (decide (0 < leap)) (by walk_at "ans") (fun c => ?_) (fun c => ?_)
    · have c := of_decide_eq_true c
      obtain ⟨gm, gu⟩ := g1 c
      obtain ⟨L, rfl⟩ := Int.eq_ofNat_of_zero_le (Int.le_of_lt c)
      have hup := leap_up (R := rises vs) (n := n) hm l1 L gu
      have hbd := leap_bd (R := rises vs) (n := n) l1 L (by omega) gu
      have hLm : (L : Int) * (vs.length : Int) ≤ n - size := Int.le_trans (Int.mul_le_mul_of_nonneg_right gm (by omega)) hmost1
      have hLp : 0 < (L : Int) * (vs.length : Int) := Int.mul_pos c (by omega)
      refine ⟨_, rfl, _, rfl, _, rfl, _, rfl, ps, _, _, _, rfl, rfl, sq_ex e3 (SqL.of hsm), last_at (by rw [rsums_len]; omega), _, _, rfl, rfl, ?_, _, _, rfl, rfl, ?_⟩
      · rw [hT]
        exact .inr ⟨by omega, by omega⟩
      · refine ⟨_, rfl, _, rfl, _, rfl, _, _, rfl, rfl, .inr ⟨by omega, by omega⟩, _, _, rfl, rfl, ?_⟩
        refine k _ _ ⟨place + (L : Int) * Rh.psum (rises vs) (n - size - 1) vs.length, size + (L : Int) * (vs.length : Nat), _, _, _, _, _, by rw [hT]; rfl, hbd.1, hbd.2, e03, ?_⟩ ?_
        · rw [← hg]
          have es : (n - size).toNat = L * vs.length + (n - (size + (L : Int) * (vs.length : Nat))).toNat := by
            have : ((L * vs.length : Nat) : Int) = (L : Int) * (vs.length : Int) := Int.natCast_mul ..
            omega
          rw [es, Rh.lift_add, hup, Int.natCast_mul]
        · show (n - (size + (L : Int) * (vs.length : Nat))).toNat < _
          omega
    · have c := of_decide_eq_false c
      unfold t_lifted_1a_5b_0
      have hrr : SqL K H3 pr ((Rh.rrow (rises vs) (n - size - 1) vs.length).map V.int) := sq_ex (ex_trans e2 e3) (SqL.of hr)
      generalize hb : (if place < size - place then place else place - size) = b
      have hpl : Rh.pl size b = place := by
        rw [← hb]
        exact pl_beside hp hs
      have besid : ∀ Q : VK, Q (.int b) H3 → sp_beside K ([.int place, .int size] ++ []) H3 Q E0 := fun Q q => by
        unfold sp_beside
        refine ⟨place, size, rfl, ?_⟩
        rw [hb]
        exact q
      refine if_go (decide (0 < most) && (decide (64 < size) && decide (Rh.stays (Rh.rrow (rises vs) (n - size - 1) vs.length) b = b))) (fun Q q => and_go _ _ (by walk_at "ans") (fun _ Q q => and_go _ _ (by walk_at "ans") (fun _ Q q => ?_) q) q) (fun cc => ?_) (fun cc => ?_)
      · refine ⟨_, rfl, _, rfl, _, rfl, besid _ ?_⟩
        unfold sp_does_stay
        exact ⟨pr, _, b, rfl, hrr, _, rfl, q⟩
      · obtain ⟨c1, cc⟩ := Bool.and_eq_true_iff.mp cc
        obtain ⟨c2, c3⟩ := Bool.and_eq_true_iff.mp cc
        have c1 := of_decide_eq_true c1
        have c2 := of_decide_eq_true c2
        have c3 := of_decide_eq_true c3
        have hnear := near_up (a := n - size - 1) hR l1 l4 hp hs c2 (g2 (by omega) c1)
        rw [hb] at hnear
        obtain ⟨L, rfl⟩ := Int.eq_ofNat_of_zero_le hmost0
        have hst := Rh.lift_stay (rises vs) n size b vs.length hm l4 hR (by omega) hnear c3 L
        rw [hpl] at hst
        have hLp : 0 < (L : Int) * (vs.length : Int) := Int.mul_pos c1 (by omega)
        refine ⟨_, rfl, _, rfl, _, rfl, _, _, rfl, rfl, .inr ⟨by omega, by omega⟩, _, rfl, _, rfl, besid _ ⟨_, _, rfl, rfl, .inr ⟨_, rfl, _, _, rfl, rfl, .inr ?_, _, _, rfl, rfl, ?_⟩⟩⟩
        · constructor <;> split <;> decide
        · refine ⟨_, rfl, _, rfl, _, rfl, _, _, rfl, rfl, .inr ⟨by omega, by omega⟩, _, _, rfl, rfl, ?_⟩
          have hnew : place + (L : Int) * (vs.length : Nat) * (if decide (b < 0) = true then 1 else 0) = Rh.pl (size + (L : Int) * (vs.length : Int)) b := by
            rw [← hpl]
            unfold Rh.pl
            by_cases cb : b < 0
            · rw [decide_eq_true cb, if_pos rfl, if_pos cb, if_pos cb]
              omega
            · rw [decide_eq_false cb, if_neg Bool.false_ne_true, if_neg cb, if_neg cb]
              omega
          refine k _ _ ⟨Rh.pl (size + (L : Int) * (vs.length : Int)) b, size + (L : Int) * (vs.length : Nat), _, _, _, _, _, by rw [← hnew]; rfl, ?_, ?_, e03, ?_⟩ ?_
          · unfold Rh.pl
            split <;> omega
          · unfold Rh.pl
            split <;> omega
          · rw [← hg]
            have es : (n - size).toNat = L * vs.length + (n - (size + (L : Int) * (vs.length : Nat))).toNat := by
              have : ((L * vs.length : Nat) : Int) = (L : Int) * (vs.length : Int) := Int.natCast_mul ..
              omega
            rw [es, Rh.lift_add, hst, Int.natCast_mul]
          · show (n - (size + (L : Int) * (vs.length : Nat))).toNat < _
            omega
      · have h0 : atI ((Rh.rrow (rises vs) (n - size - 1) vs.length).map V.int) 0 = some (.int (Rh.rI (rises vs) (n - size - 1))) := by
          refine at_of (j := 0) rfl ?_
          rw [rrow_map, List.map_map, List.getElem?_map, List.getElem?_range (by omega)]
          show some (V.int (Rh.rI (rises vs) (n - size - 1 - ((0 : Nat) : Int)))) = _
          have e0 : n - size - 1 - ((0 : Nat) : Int) = n - size - 1 := by omega
          rw [e0]
        refine ⟨_, rfl, _, _, rfl, rfl, _, rfl, _, rfl, pr, _, _, _, rfl, rfl, hrr, h0, _, _, rfl, rfl, _, rfl, _, _, rfl, rfl, (by show (0 : Int) < size + 1; omega), ?_⟩
        have b0 := Int.emod_nonneg (place + Rh.rI (rises vs) (n - size - 1)) (show size + 1 ≠ 0 by omega)
        have b1 := Int.emod_lt_of_pos (place + Rh.rI (rises vs) (n - size - 1)) (show (0 : Int) < size + 1 by omega)
        refine k _ _ ⟨(place + Rh.rI (rises vs) (n - size - 1)) % (size + 1), size + 1, _, _, _, _, _, rfl, b0, b1, e03, ?_⟩ ?_
        · rw [← hg]
          have es : (n - size).toNat = (n - (size + 1)).toNat + 1 := by omega
          rw [es, Rh.lift_succ]
        · show (n - (size + 1)).toNat < _
          omega
  refine ⟨_, rfl, rfl, _, rfl, ?_⟩
  rw [oV_none]
  cases hfo : found with
  | none =>
    rw [hfo] at told go
    refine iteT ⟨_, rfl, ?_⟩
    refine go most (fun _ => ⟨Int.le_refl _, fun c h0 _ => told.1 rfl c h0⟩) (fun h h2 => by omega)
  | some x =>
    rw [hfo] at told go
    obtain ⟨x0, xu, xn⟩ := told.2 x rfl
    refine iteF ⟨_, rfl, _, rfl, x, most, rfl, ?_⟩
    by_cases c : most < x
    · rw [if_pos c]
      exact go most (fun _ => ⟨Int.le_refl _, fun c h0 h1 => xu c h0 (by omega)⟩) (fun h h2 => by omega)
    · rw [if_neg c]
      refine go x (fun _ => ⟨by omega, xu⟩) (fun h h2 => ?_)
      have : x = 0 := by omega
      rw [this] at xn
      exact xn
theorem pure_lifted {K : PySem.W.Frag} (T : RhC K) (ws : List V) (H : Hp) (Q : VK) (E : XK) (h : sp_lifted K ws H Q E) : t_lifted_0 K E { nx := fun _ H' => Q .non H', rt := Q } (start ["rhyme", "place", "size", "n", "many", "row", "sums", "most", "found", "leap"] ws) H := by
  unfold sp_lifted at h
  obtain ⟨a, vs, left, place, size, n, rfl, R, ok, hp, hs, k⟩ := h
  obtain ⟨dx, tv, tr, h1, h2, h3⟩ := id R
  have hl : ((rises vs).map V.int).length = vs.length := by rw [List.length_map, rises_len]
  refine ⟨_, rfl, a, _, dx, _, _, rfl, h1, T.cl, T.nr, rhF_r _ _ _, tr, _, rfl, .inr h3, ?_⟩
  rw [hl]
  show t_lifted_1 K E _ [some (.ref a), some (.int place), some (.int size), some (.int n), some (.int (vs.length : Nat)), none, none, none, none, none] H
  unfold t_lifted_1
  refine while_by (LiftSt K H a vs left n (Rh.lift (rises vs) n (n - size).toNat size place)) liftMu ⟨place, size, none, none, none, none, none, rfl, hp, hs, ex_refl _, rfl⟩ ?_ ?_
  · rintro σ H' ⟨pl, sz, u5, u6, u7, u8, u9, rfl, hp', hs', e, hg⟩
    refine ⟨_, rfl, _, rfl, _, _, rfl, rfl, _, rfl, ?_⟩
    by_cases c : sz < n
    · refine iteT' (decide_eq_true c) ?_
      refine lifted_turn (E := E) R ok T hp' hs' c e hg fun σ' H'' hL hM => ⟨hL, hM⟩
    · refine iteF' (decide_eq_false c) ?_
      refine ⟨_, rfl, ?_⟩
      have e0 : (n - sz).toNat = 0 := by omega
      rw [e0, Rh.lift_zero] at hg
      rw [hg]
      exact k H' e
  · rintro σ H' Q Q' hq ⟨x, hx, y, hy, i, j, h1, h2, b, hb, q⟩
    exact ⟨x, hx, y, hy, i, j, h1, h2, b, hb, hq _ _ q⟩

end Z
namespace Z
open PySem PySem.Spec PyProof.Rows L2
local macro_rules | `(tactic| walk_at "look") => `(tactic| first | assumption | exact upd_same | exact SqL.of (by assumption) | exact SqT.of (by assumption) | exact SqL.of upd_same | exact SqT.of upd_same)
local macro_rules | `(tactic| walk_at "at") => `(tactic| first | exact at0 | exact at1 | exact at2 | exact at3 | exact ix0 | exact ix1 | assumption | exact atI_nat (by rfl))
local macro_rules | `(tactic| walk_at "sd") => `(tactic| ((try dsimp only); first | assumption | omega | (unfold CMul; omega) | (unfold CDiv; omega) | (unfold CPow; decide) | decide))
local macro_rules | `(tactic| walk_at "st") => `(tactic| first
  | (refine ⟨_, rfl, ?_⟩)
  | (refine ⟨_, _, rfl, rfl, ?_⟩)
  | (refine ⟨rfl, ?_⟩)
  | (refine .inl ⟨_, rfl, ?_⟩)
  | (refine ⟨_, _, _, _, rfl, rfl, (by walk_at "look"), (by walk_at "at"), ?_⟩)
  | (refine ⟨_, _, rfl, .inl (by walk_at "look"), ?_⟩)
  | (refine And.intro (by walk_at "sd") ?_)
  | fail "no step")
local macro_rules | `(tactic| walk_at "go") => `(tactic| repeat' (walk_at "st"))
local macro_rules | `(tactic| walk_at "ans") => `(tactic| (intro Q q; (repeat' (walk_at "st")); exact q))

/-! ### sorted -/
def sortI (l : List Int) : List Int := l.mergeSort fun a b => decide (a ≤ b)
theorem sortI_perm (l : List Int) : (sortI l).Perm l := List.mergeSort_perm l _
theorem sortI_pw (l : List Int) : (sortI l).Pairwise (· ≤ ·) := by
  have := List.pairwise_mergeSort (le := fun a b : Int => decide (a ≤ b)) (fun a b c h1 h2 => decide_eq_true (Int.le_trans (of_decide_eq_true h1) (of_decide_eq_true h2))) (fun a b => by
    rcases Int.le_total a b with h | h
    · rw [decide_eq_true h]
      rfl
    · rw [decide_eq_true h, Bool.or_true]) l
  exact this.imp fun h => of_decide_eq_true h
theorem sort_uniq {l l' : List Int} (p : l'.Perm l) (s : l'.Pairwise (· ≤ ·)) : l' = sortI l :=
  List.Perm.eq_of_pairwise (fun a b _ _ h1 h2 => Int.le_antisymm h1 h2) s (sortI_pw l) (p.trans (sortI_perm l).symm)
/-! ### need_number -/
abbrev BN (K : PySem.W.Frag) (x : String) : Value := .ref (He.ga K x)
abbrev GREAT : Int := 1000000000000000000000000000000
@[irreducible] def sp_need_number (K : PySem.W.Frag) : Sp := fun ws H Q E => ∃ (a : Addr) (vs : List Ve) (left : Int) (v : V) (d : PyData) (most : Int), ws = [.ref a, v, .int most] ∧ RhAt K H a vs left ∧ Dp K H v d ∧
  (isBet d left most = true → Q .non H) ∧ (isBet d left most = false → E (BN K "BadNumber") none H)
def t_need_number_0a_0 (K : PySem.W.Frag) (E : XK) : TS := (tRaise0 E (He.ga K "BadNumber"))

@[irreducible] def t_need_number_0 (K : PySem.W.Frag) (E : XK) : TS := (tIfS (tNot (tB (tCall (sp_is_between K) [] E (tCons (tVar 1) (tCons (tFld K (tVar 0) "own_left") (tCons (tVar 2) tNil))))))
    (t_need_number_0a_0 K E) tNext)

theorem pure_need_number {K : PySem.W.Frag} (T : RhC K) (ws : List V) (H : Hp) (Q : VK) (E : XK) (h : sp_need_number K ws H Q E) : t_need_number_0 K E { nx := fun _ H' => Q .non H', rt := Q } (start ["rhyme", "value", "most"] ws) H := by
  unfold sp_need_number at h
  obtain ⟨a, vs, left, v, d, most, rfl, R, hd, k1, k2⟩ := h
  obtain ⟨dx, tv, tr, h1, h2, h3⟩ := id R
  show t_need_number_0 K E _ [some (.ref a), some v, some (.int most)] H
  unfold t_need_number_0
  refine if_go (!(isBet d left most)) (fun Q q => ?_) (fun c => ?_) (fun c => ?_)
  · refine ⟨_, rfl, _, rfl, a, _, dx, _, _, rfl, h1, T.cl, T.nl, rhF_l _ _ _, _, rfl, ?_⟩
    unfold sp_is_between
    exact ⟨v, d, left, most, rfl, hd, _, rfl, q⟩
  · refine k2 ?_
    cases z : isBet d left most with
    | false => rfl
    | true => rw [z] at c; cases c
  · refine k1 ?_
    cases z : isBet d left most with
    | true => rfl
    | false => rw [z] at c; cases c
/-- an int that is between -/
theorem isBet_int {d : PyData} {a b : Int} (h : isBet d a b = true) : ∃ n, d = .int n ∧ a ≤ n ∧ n ≤ b := by
  cases d with
  | int n =>
    obtain ⟨h1, h2⟩ := Bool.and_eq_true_iff.mp (show (decide (a ≤ n) && decide (n ≤ b)) = true from h)
    exact ⟨n, rfl, of_decide_eq_true h1, of_decide_eq_true h2⟩
  | _ => cases h
theorem isBet_of {n a b : Int} (h1 : a ≤ n) (h2 : n ≤ b) : isBet (.int n) a b = true := by
  show (decide (a ≤ n) && decide (n ≤ b)) = true
  rw [decide_eq_true h1, decide_eq_true h2]
  rfl
/-! ### kept_of, kept -/
def keptL (vs : List Ve) (left n : Int) : List Int := sortI (Rh.rowL (rises vs) n left.toNat)
@[irreducible] def sp_kept_of (K : PySem.W.Frag) : Sp := fun ws H Q _ => ∃ (a : Addr) (vs : List Ve) (left n : Int), ws = [.ref a, .int n] ∧ RhAt K H a vs left ∧ RhOk vs left ∧
  ∀ (p : Addr) (H' : Hp), H p = none → Ex H H' → H' p = some (.lst ((keptL vs left n).map V.int)) → Q (.ref p) H'
def t_kept_of_0 (K : PySem.W.Frag) (E : XK) : TS := (tRet (tCB (rSorted K) (tCons (tLc (iRng1 (tCons (tFld K (tVar 0) "own_left") tNil)) (gName 2) tYes (tCall (sp_lifted K) [] E0 (tCons (tVar 0) (tCons (tVar 2) (tCons (tFld K (tVar 0) "own_left") (tCons (tVar 1) tNil))))) [2]) tNil)))

theorem pure_kept_of {K : PySem.W.Frag} (T : RhC K) (ws : List V) (H : Hp) (Q : VK) (E : XK) (h : sp_kept_of K ws H Q E) : t_kept_of_0 K E { nx := fun _ H' => Q .non H', rt := Q } (start ["rhyme", "n", "place"] ws) H := by
  unfold sp_kept_of at h
  obtain ⟨a, vs, left, n, rfl, R, ok, k⟩ := h
  obtain ⟨dx, tv, tr, h1, h2, h3⟩ := id R
  have lf := ok.lf
  have h9 : (9 : Nat) < sizeLine := by decide
  show t_kept_of_0 K E _ [some (.ref a), some (.int n), none] H
  refine ⟨_, rfl, a, _, dx, _, _, rfl, h1, T.cl, T.nl, rhF_l _ _ _, _, rfl, by omega, by omega, fun p hp => lc_map walk_range (fun i => .int (Rh.lift (rises vs) n (n - left).toNat left (i : Int))) hp (by omega) (fun _ _ => trivial) ?_ ?_⟩
  · rintro i x H3 H4 hi e ⟨rfl, rfl⟩ Q Zf q
    refine ⟨rfl, iteT (B := Zf H4) ?_⟩
    refine ⟨_, rfl, _, rfl, _, rfl, a, _, dx, _, _, rfl, e _ _ h1, T.cl, T.nl, rhF_l _ _ _, _, rfl, ?_⟩
    unfold sp_lifted
    refine ⟨a, vs, left, _, left, n, rfl, rh_ex e R, ok, by omega, by omega, fun H5 e5 => ?_⟩
    have e0 : (0 : Int) + (i : Int) = i := by omega
    rw [e0]
    exact q _ e5
  · intro H3 e h4
    have e4 : (List.range left.toNat).map (fun (i : Nat) => V.int (Rh.lift (rises vs) n (n - left).toNat left (i : Int))) = (Rh.rowL (rises vs) n left.toNat).map V.int := by
      unfold Rh.rowL
      rw [List.map_map]
      have el : ((left.toNat : Nat) : Int) = left := Int.toNat_of_nonneg (by omega)
      rw [el]
      rfl
    rw [e4] at h4
    refine ⟨p, _, rfl, SqL.of h4, ?_, fun ns' r hperm hsort hr => ?_⟩
    · unfold Rh.rowL
      rw [List.length_map, List.length_range]
      omega
    · rw [sort_uniq hperm hsort]
      exact k r _ (ex_free e hr) (ex_trans e (ex_new hr)) upd_same
@[irreducible] def sp_kept (K : PySem.W.Frag) : Sp := fun ws H Q E => ∃ (a : Addr) (vs : List Ve) (left : Int) (v : V) (d : PyData), ws = [.ref a, v] ∧ RhAt K H a vs left ∧ RhOk vs left ∧ Dp K H v d ∧
  (isBet d left GREAT = false → E (BN K "BadNumber") none H) ∧
  (∀ n, d = .int n → left ≤ n → n ≤ GREAT → ∀ (p : Addr) (H' : Hp), H p = none → Ex H H' → H' p = some (.lst ((keptL vs left n).map V.int)) → Q (.ref p) H')
def t_kept_1 (K : PySem.W.Frag) (E : XK) : TS := (tRet (tCall (sp_kept_of K) [] E (tCons (tVar 0) (tCons (tVar 1) tNil))))

def t_kept_0 (K : PySem.W.Frag) (E : XK) : TS := tSeq (tDrop (tCall (sp_need_number K) [(.int 1000000000000000000000000000000)] E (tCons (tVar 0) (tCons (tVar 1) tNil)))) (t_kept_1 K E)

theorem pure_kept {K : PySem.W.Frag} (ws : List V) (H : Hp) (Q : VK) (E : XK) (h : sp_kept K ws H Q E) : t_kept_0 K E { nx := fun _ H' => Q .non H', rt := Q } (start ["rhyme", "n"] ws) H := by
  unfold sp_kept at h
  obtain ⟨a, vs, left, v, d, rfl, R, ok, hd, k1, k2⟩ := h
  show t_kept_0 K E _ [some (.ref a), some v] H
  refine ⟨_, rfl, _, rfl, ?_⟩
  unfold sp_need_number
  refine ⟨a, vs, left, v, d, GREAT, rfl, R, hd, fun hb => ?_, k1⟩
  obtain ⟨n, rfl, hn1, hn2⟩ := isBet_int hb
  obtain rfl := dp_int hd
  refine ⟨_, rfl, _, rfl, ?_⟩
  unfold sp_kept_of
  exact ⟨a, vs, left, n, rfl, R, ok, k2 n rfl hn1 hn2⟩
/-! ### heir, gone -/
def heirF (vs : List Ve) (left n : Int) : Int := Rh.lift (rises vs) n (n - left).toNat left 0
@[irreducible] def sp_heir (K : PySem.W.Frag) : Sp := fun ws H Q E => ∃ (a : Addr) (vs : List Ve) (left : Int) (v : V) (d : PyData), ws = [.ref a, v] ∧ RhAt K H a vs left ∧ RhOk vs left ∧ Dp K H v d ∧
  (isBet d left GREAT = false → E (BN K "BadNumber") none H) ∧ (∀ n, d = .int n → left ≤ n → n ≤ GREAT → ∀ H' : Hp, Ex H H' → Q (.int (heirF vs left n)) H')
def t_heir_1 (K : PySem.W.Frag) (E : XK) : TS := (tRet (tCall (sp_lifted K) [] E (tCons (tVar 0) (tCons (tC (.int 0)) (tCons (tFld K (tVar 0) "own_left") (tCons (tVar 1) tNil))))))

def t_heir_0 (K : PySem.W.Frag) (E : XK) : TS := tSeq (tDrop (tCall (sp_need_number K) [(.int 1000000000000000000000000000000)] E (tCons (tVar 0) (tCons (tVar 1) tNil)))) (t_heir_1 K E)

theorem pure_heir {K : PySem.W.Frag} (T : RhC K) (ws : List V) (H : Hp) (Q : VK) (E : XK) (h : sp_heir K ws H Q E) : t_heir_0 K E { nx := fun _ H' => Q .non H', rt := Q } (start ["rhyme", "n"] ws) H := by
  unfold sp_heir at h
  obtain ⟨a, vs, left, v, d, rfl, R, ok, hd, k1, k2⟩ := h
  obtain ⟨dx, tv, tr, h1, h2, h3⟩ := id R
  show t_heir_0 K E _ [some (.ref a), some v] H
  refine ⟨_, rfl, _, rfl, ?_⟩
  unfold sp_need_number
  refine ⟨a, vs, left, v, d, GREAT, rfl, R, hd, fun hb => ?_, k1⟩
  obtain ⟨n, rfl, hn1, hn2⟩ := isBet_int hb
  obtain rfl := dp_int hd
  have lf := ok.lf
  refine ⟨_, rfl, _, rfl, a, _, dx, _, _, rfl, h1, T.cl, T.nl, rhF_l _ _ _, _, rfl, ?_⟩
  unfold sp_lifted
  exact ⟨a, vs, left, 0, left, n, rfl, R, ok, by omega, by omega, fun H' e => k2 n rfl hn1 hn2 H' e⟩
@[irreducible] def sp_gone (K : PySem.W.Frag) : Sp := fun ws H Q E => ∃ (a : Addr) (vs : List Ve) (left : Int) (v tv : V) (d td : PyData), ws = [.ref a, v, tv] ∧ RhAt K H a vs left ∧ RhOk vs left ∧ Dp K H v d ∧ Dp K H tv td ∧
  (isBet d left GREAT = false → E (BN K "BadNumber") none H) ∧ (∀ n, d = .int n → left ≤ n → n ≤ GREAT → (isBet td 1 (n - left) = false → E (BN K "BadTurn") none H) ∧
    ∀ t, td = .int t → 1 ≤ t → t ≤ n - left → ∀ H' : Hp, Ex H H' → Q (.int (Rh.goneF (rises vs) n t)) H')
def t_gone_1a_0 (K : PySem.W.Frag) (E : XK) : TS := (tRaise0 E (He.ga K "BadTurn"))

def t_gone_3 (K : PySem.W.Frag) (E : XK) : TS := (tRet (tCall (sp_lifted K) [] E (tCons (tVar 0) (tCons (tOp oMod (tOp oAdd (tOp oSub (tVar 3) (tC (.int 1))) (tOp (rIxT K) (tFld K (tVar 0) "rises") (tOp oMod (tOp oSub (tVar 2) (tC (.int 1))) (tCB (cLen K) (tCons (tFld K (tVar 0) "rises") tNil))))) (tVar 3)) (tCons (tVar 3) (tCons (tVar 1) tNil))))))

def t_gone_2 (K : PySem.W.Frag) (E : XK) : TS := tSeq (tAsg (tOp oAdd (tOp oSub (tVar 1) (tVar 2)) (tC (.int 1))) (gName 3)) (t_gone_3 K E)

@[irreducible] def t_gone_1 (K : PySem.W.Frag) (E : XK) : TS := tSeq (tIfS (tNot (tB (tCall (sp_is_between K) [] E (tCons (tVar 2) (tCons (tC (.int 1)) (tCons (tOp oSub (tVar 1) (tFld K (tVar 0) "own_left")) tNil))))))
    (t_gone_1a_0 K E) tNext) (t_gone_2 K E)

def t_gone_0 (K : PySem.W.Frag) (E : XK) : TS := tSeq (tDrop (tCall (sp_need_number K) [(.int 1000000000000000000000000000000)] E (tCons (tVar 0) (tCons (tVar 1) tNil)))) (t_gone_1 K E)

theorem pure_gone {K : PySem.W.Frag} (T : RhC K) (ws : List V) (H : Hp) (Q : VK) (E : XK) (h : sp_gone K ws H Q E) : t_gone_0 K E { nx := fun _ H' => Q .non H', rt := Q } (start ["rhyme", "n", "turn", "size"] ws) H := by
  unfold sp_gone at h
  obtain ⟨a, vs, left, v, tv, d, td, rfl, R, ok, hd, htd, k1, k2⟩ := h
  obtain ⟨dx, vv, tr, h1, h2, h3⟩ := id R
  have hl : ((rises vs).map V.int).length = vs.length := by rw [List.length_map, rises_len]
  show t_gone_0 K E _ [some (.ref a), some v, some tv, none] H
  refine ⟨_, rfl, _, rfl, ?_⟩
  unfold sp_need_number
  refine ⟨a, vs, left, v, d, GREAT, rfl, R, hd, fun hb => ?_, k1⟩
  obtain ⟨n, rfl, hn1, hn2⟩ := isBet_int hb
  obtain rfl := dp_int hd
  obtain ⟨k3, k4⟩ := k2 n rfl hn1 hn2
  have lf := ok.lf
  have l1 := ok.l1
  show t_gone_1 K E { nx := fun _ H' => Q .non H', rt := Q } [some (.ref a), some (.int n), some tv, none] H
  unfold t_gone_1
  refine if_go (!(isBet td 1 (n - left))) (fun Q q => ?_) (fun c => ?_) (fun c => ?_)
  · refine ⟨_, rfl, _, rfl, _, rfl, a, _, dx, _, _, rfl, h1, T.cl, T.nl, rhF_l _ _ _, _, _, rfl, rfl, ?_⟩
    unfold sp_is_between
    exact ⟨tv, td, 1, n - left, rfl, htd, _, rfl, q⟩
  · refine k3 ?_
    cases z : isBet td 1 (n - left) with
    | false => rfl
    | true => rw [z] at c; cases c
  · have hb2 : isBet td 1 (n - left) = true := by
      cases z : isBet td 1 (n - left) with
      | true => rfl
      | false => rw [z] at c; cases c
    obtain ⟨t, rfl, ht1, ht2⟩ := isBet_int hb2
    obtain rfl := dp_int htd
    show t_gone_2 K E { nx := fun _ H' => Q .non H', rt := Q } [some (.ref a), some (.int n), some (.int t), none] H
    refine ⟨_, rfl, _, rfl, _, _, rfl, rfl, _, _, rfl, rfl, ?_⟩
    show t_gone_3 K E { nx := fun _ H' => Q .non H', rt := Q } [some (.ref a), some (.int n), some (.int t), some (.int (n - t + 1))] H
    have er := rise_at (R := rises vs) (by rw [rises_len]; omega) (t - 1)
    rw [rises_len] at er
    refine ⟨_, rfl, _, rfl, _, _, rfl, rfl, _, rfl, a, _, dx, _, _, rfl, h1, T.cl, T.nr, rhF_r _ _ _, _, rfl, _, _, rfl, rfl, _, rfl, a, _, dx, _, _, rfl, h1, T.cl, T.nr, rhF_r _ _ _, tr, _, rfl, .inr h3, _, _, rfl, rfl, (by rw [hl]; omega), ?_⟩
    rw [hl]
    refine ⟨tr, _, _, _, rfl, rfl, h3, er, _, _, rfl, rfl, _, rfl, _, _, rfl, rfl, (by omega), _, rfl, _, rfl, ?_⟩
    unfold sp_lifted
    have b0 := Int.emod_nonneg (n - t + 1 - 1 + Rh.rI (rises vs) (t - 1)) (show n - t + 1 ≠ 0 by omega)
    have b1 := Int.emod_lt_of_pos (n - t + 1 - 1 + Rh.rI (rises vs) (t - 1)) (show (0 : Int) < n - t + 1 by omega)
    refine ⟨a, vs, left, _, n - t + 1, n, rfl, R, ok, b0, b1, fun H' e => ?_⟩
    have e1 : n - (n - t + 1) = t - 1 := by omega
    have e2 : n - t + 1 - 1 = n - t := by omega
    rw [e1, e2]
    exact k4 t rfl ht1 ht2 H' e

end Z
namespace Z
open PySem PySem.Spec PyProof.Rows L2
local macro_rules | `(tactic| walk_at "look") => `(tactic| first | assumption | exact upd_same | exact SqL.of (by assumption) | exact SqT.of (by assumption) | exact SqL.of upd_same | exact SqT.of upd_same)
local macro_rules | `(tactic| walk_at "at") => `(tactic| first | exact at0 | exact at1 | exact at2 | exact at3 | exact ix0 | exact ix1 | assumption | exact atI_nat (by rfl))
local macro_rules | `(tactic| walk_at "sd") => `(tactic| ((try dsimp only); first | assumption | omega | (unfold CMul; omega) | (unfold CDiv; omega) | (unfold CPow; decide) | decide))
local macro_rules | `(tactic| walk_at "st") => `(tactic| first
  | (refine ⟨_, rfl, ?_⟩)
  | (refine ⟨_, _, rfl, rfl, ?_⟩)
  | (refine ⟨rfl, ?_⟩)
  | (refine .inl ⟨_, rfl, ?_⟩)
  | (refine ⟨_, _, _, _, rfl, rfl, (by walk_at "look"), (by walk_at "at"), ?_⟩)
  | (refine ⟨_, _, rfl, .inl (by walk_at "look"), ?_⟩)
  | (refine And.intro (by walk_at "sd") ?_)
  | fail "no step")
local macro_rules | `(tactic| walk_at "go") => `(tactic| repeat' (walk_at "st"))
local macro_rules | `(tactic| walk_at "ans") => `(tactic| (intro Q q; (repeat' (walk_at "st")); exact q))

/-! ### order_of, order -/
@[irreducible] def sp_order_of (K : PySem.W.Frag) : Sp := fun ws H Q _ => ∃ (a : Addr) (vs : List Ve) (left : Int) (N : Nat), ws = [.ref a, .int N] ∧ RhAt K H a vs left ∧ RhOk vs left ∧ left ≤ N ∧ N ≤ 5000 ∧
  ∀ (p q r : Addr) (H' : Hp), H q = none → H r = none → q ≠ r → Ex H H' → H' p = some (.tup [.ref q, .ref r]) → H' q = some (.lst ((Rh.st (rises vs) N (N - left.toNat)).1.map V.int)) → H' r = some (.lst ((Rh.st (rises vs) N (N - left.toNat)).2.map V.int)) → Q (.ref p) H'
def t_order_of_1a_3 (K : PySem.W.Frag) (E : XK) : TS := (tAsg (tOp rCat (tSl (rSlL K) (tVar 2) (tPart (tOp oAdd (tVar 5) (tC (.int 1)))) tNoPart) (tSl (rSlL K) (tVar 2) tNoPart (tPart (tVar 5)))) (gName 2))

def t_order_of_1a_2 (K : PySem.W.Frag) (E : XK) : TS := tSeq (tDrop (tBM K "list" rAppend (tVar 3) (tCons (tOp (rIxL K) (tVar 2) (tVar 5)) tNil))) (t_order_of_1a_3 K E)

def t_order_of_1a_1 (K : PySem.W.Frag) (E : XK) : TS := tSeq (tAsg (tOp oMod (tOp oSub (tVar 4) (tC (.int 1))) (tCB (cLen K) (tCons (tVar 2) tNil))) (gName 5)) (t_order_of_1a_2 K E)

def t_order_of_1a_0 (K : PySem.W.Frag) (E : XK) : TS := tSeq (tAsg (tOp (rIxT K) (tFld K (tVar 0) "rises") (tOp oMod (tCB (cLen K) (tCons (tVar 3) tNil)) (tCB (cLen K) (tCons (tFld K (tVar 0) "rises") tNil)))) (gName 4)) (t_order_of_1a_1 K E)

def t_order_of_2 (K : PySem.W.Frag) (E : XK) : TS := (tRet (tTup (tCons (tVar 3) (tCons (tVar 2) tNil))))

@[irreducible] def t_order_of_1 (K : PySem.W.Frag) (E : XK) : TS := tSeq (tWhile (tTest (tOp oGt (tCB (cLen K) (tCons (tVar 2) tNil)) (tFld K (tVar 0) "own_left")))
    (t_order_of_1a_0 K E)) (t_order_of_2 K E)

def t_order_of_0 (K : PySem.W.Frag) (E : XK) : TS := tSeq (tPar 2 3 (tCons (tLstRg (tRg1 (tVar 1))) (tCons (tLst tNil) tNil))) (t_order_of_1 K E)

theorem cut_from (xs : List V) (i : Nat) (h : i ≤ xs.length) : cutV xs (some ((i : Int))) none = xs.drop i := by
  show (xs.drop (HT.sIx xs.length 0 (some (i : Int)))).take (xs.length - HT.sIx xs.length 0 (some (i : Int))) = _
  rw [HT.sIx_nat, Nat.min_eq_left h]
  exact List.take_of_length_le (by rw [List.length_drop]; exact Nat.le_refl _)
theorem cut_to (xs : List V) (i : Nat) (h : i ≤ xs.length) : cutV xs none (some ((i : Int))) = xs.take i := by
  show (xs.drop 0).take (HT.sIx xs.length xs.length (some (i : Int)) - 0) = _
  rw [HT.sIx_nat, Nat.min_eq_left h, List.drop_zero, Nat.sub_zero]
theorem rgV_nat (N : Nat) : rgV 0 (N : Int) = (Rh.st [] N 0).2.map V.int := by
  unfold rgV
  show _ = ((List.range N).map fun (i : Nat) => (i : Int)).map V.int
  rw [List.map_map]
  have e : ((N : Int) - 0).toNat = N := by omega
  rw [e]
  refine List.map_congr_left fun i _ => ?_
  show V.int (0 + (i : Int)) = V.int (i : Int)
  congr 1
  omega
def OrdSt (K : PySem.W.Frag) (H0 : Hp) (a : Addr) (vs : List Ve) (left : Int) (N : Nat) (σ : L2.St) (H : Hp) : Prop := ∃ (j : Nat) (r q : Addr) (u4 u5 : Option V),
  σ = [some (.ref a), some (.int N), some (.ref r), some (.ref q), u4, u5] ∧ j + left.toNat ≤ N ∧ Ex H0 H ∧ H0 q = none ∧ H0 r = none ∧ q ≠ r ∧ H q = some (.lst ((Rh.st (rises vs) N j).1.map V.int)) ∧ H r = some (.lst ((Rh.st (rises vs) N j).2.map V.int))
/-- the length of the row that is in -/
def ordMu (σ : L2.St) (H : Hp) : Nat := match σ with
  | [_, _, some (.ref r), _, _, _] => (match H r with
    | some (.lst xs) => xs.length
    | _ => 0)
  | _ => 0
theorem ordMu_of {H : Hp} {r : Addr} {xs : List V} {x y z u w : Option V} (h : H r = some (.lst xs)) : ordMu [x, y, some (.ref r), z, u, w] H = xs.length := by
  show (match H r with | some (.lst xs) => xs.length | _ => 0) = _
  rw [h]
theorem order_turn {K : PySem.W.Frag} {E : XK} {D : Ends} {H0 H : Hp} {a r q : Addr} {vs : List Ve} {left : Int} {N j : Nat} {u4 u5 : Option V} (R : RhAt K H0 a vs left) (ok : RhOk vs left) (T : RhC K)
    (hN : N ≤ 5000) (hj : j + left.toNat < N) (e : Ex H0 H) (nq : H0 q = none) (nr : H0 r = none) (qr : q ≠ r) (hq : H q = some (.lst ((Rh.st (rises vs) N j).1.map V.int))) (hr : H r = some (.lst ((Rh.st (rises vs) N j).2.map V.int)))
    (k : ∀ σ H', OrdSt K H0 a vs left N σ H' → ordMu σ H' < N - j → D.nx σ H') :
    t_order_of_1a_0 K E D [some (.ref a), some (.int N), some (.ref r), some (.ref q), u4, u5] H := by
  have l1 := ok.l1
  have lf := ok.lf
  obtain ⟨dx, tv, tr, h1, h2, h3⟩ := id (rh_ex e R)
  have h5000 : (10001 : Nat) ≤ sizeLine := by decide
  have hl : ((rises vs).map V.int).length = vs.length := by rw [List.length_map, rises_len]
  have hlen1 := Rh.st_len1 (rises vs) N j
  have hlen2 := Rh.st_len (rises vs) N j (by omega)
  have er := rise_at (R := rises vs) (by rw [rises_len]; omega) (j : Int)
  rw [rises_len] at er
  refine ⟨_, rfl, a, _, dx, _, _, rfl, h1, T.cl, T.nr, rhF_r _ _ _, _, rfl, q, _, rfl, .inl (SqL.of hq), _, rfl, a, _, dx, _, _, rfl, h1, T.cl, T.nr, rhF_r _ _ _, tr, _, rfl, .inr h3, _, _, rfl, rfl, (by rw [hl]; omega), ?_⟩
  rw [hl, List.length_map, hlen1]
  refine ⟨tr, _, _, _, rfl, rfl, h3, er, ?_⟩
  show t_order_of_1a_1 K E D [some (.ref a), some (.int N), some (.ref r), some (.ref q), some (.int (Rh.rI (rises vs) j)), u5] H
  refine ⟨_, rfl, _, _, rfl, rfl, _, rfl, r, _, rfl, .inl (SqL.of hr), _, _, rfl, rfl, ?_, ?_⟩
  · rw [List.length_map, hlen2]
    omega
  rw [List.length_map]
  have hlt : Rh.atR (Rh.rI (rises vs) j) (Rh.st (rises vs) N j).2.length < (Rh.st (rises vs) N j).2.length := Rh.atR_lt (by omega)
  have hae : (Rh.rI (rises vs) j - 1) % ((Rh.st (rises vs) N j).2.length : Int) = ((Rh.atR (Rh.rI (rises vs) j) (Rh.st (rises vs) N j).2.length : Nat) : Int) := by
    unfold Rh.atR
    exact (Int.toNat_of_nonneg (Int.emod_nonneg _ (by omega))).symm
  show t_order_of_1a_2 K E D [some (.ref a), some (.int N), some (.ref r), some (.ref q), some (.int (Rh.rI (rises vs) j)), some (.int ((Rh.rI (rises vs) j - 1) % ((Rh.st (rises vs) N j).2.length : Int)))] H
  rw [hae]
  generalize hA : Rh.atR (Rh.rI (rises vs) j) (Rh.st (rises vs) N j).2.length = A at hlt
  show t_order_of_1a_2 K E D [some (.ref a), some (.int N), some (.ref r), some (.ref q), some (.int (Rh.rI (rises vs) j)), some (.int (A : Nat))] H
  have hg : ((Rh.st (rises vs) N j).2.map V.int)[A]? = some (.int ((Rh.st (rises vs) N j).2.getD A 0)) := by
    rw [List.getElem?_map, List.getElem?_eq_getElem hlt, List.getD_eq_getElem?_getD, List.getElem?_eq_getElem hlt]
    rfl
  refine ⟨_, rfl, .inl ⟨rfl, _, SqL.of hq⟩, _, rfl, _, rfl, r, _, _, _, rfl, rfl, SqL.of hr, at_of rfl hg, ?_⟩
  refine ⟨q, _, _, rfl, rfl, hq, (by rw [List.length_map, hlen1]; omega), ?_⟩
  have hr2 : (upd H q (.lst ((Rh.st (rises vs) N j).1.map V.int ++ [.int ((Rh.st (rises vs) N j).2.getD A 0)]))) r = some (.lst ((Rh.st (rises vs) N j).2.map V.int)) := by
    rw [upd_ne qr.symm]
    exact hr
  have hq2 : (upd H q (.lst ((Rh.st (rises vs) N j).1.map V.int ++ [.int ((Rh.st (rises vs) N j).2.getD A 0)]))) q = some (.lst ((Rh.st (rises vs) N (j + 1)).1.map V.int)) := by
    rw [upd_same]
    show _ = some (HO.lst (((Rh.st (rises vs) N j).1 ++ [(Rh.st (rises vs) N j).2.getD (Rh.atR (Rh.rI (rises vs) j) (Rh.st (rises vs) N j).2.length) 0]).map V.int))
    rw [hA, List.map_append]
    rfl
  have e2 : Ex H0 (upd H q (.lst ((Rh.st (rises vs) N j).1.map V.int ++ [.int ((Rh.st (rises vs) N j).2.getD A 0)]))) := ex_mut e nq
  generalize upd H q (.lst ((Rh.st (rises vs) N j).1.map V.int ++ [.int ((Rh.st (rises vs) N j).2.getD A 0)])) = H2 at hr2 hq2 e2
  show t_order_of_1a_3 K E D [some (.ref a), some (.int N), some (.ref r), some (.ref q), some (.int (Rh.rI (rises vs) j)), some (.int (A : Nat))] H2
  have c1 : cutV ((Rh.st (rises vs) N j).2.map V.int) (some ((A : Int) + 1)) none = ((Rh.st (rises vs) N j).2.drop (A + 1)).map V.int := by
    rw [show (A : Int) + 1 = ((A + 1 : Nat) : Int) from by omega, cut_from _ _ (by rw [List.length_map]; omega), List.map_drop]
  have c2 : cutV ((Rh.st (rises vs) N j).2.map V.int) none (some (A : Int)) = ((Rh.st (rises vs) N j).2.take A).map V.int := by
    rw [cut_to _ _ (by rw [List.length_map]; omega), List.map_take]
  refine ⟨_, rfl, _, rfl, _, _, rfl, rfl, _, rfl, r, _, rfl, SqL.of hr2, fun p1 hp1 => ?_⟩
  rw [c1]
  have e3 := ex_new (o := .lst (((Rh.st (rises vs) N j).2.drop (A + 1)).map V.int)) hp1
  refine ⟨_, rfl, _, rfl, _, rfl, r, _, rfl, SqL.of (e3 _ _ hr2), fun p2 hp2 => ?_⟩
  rw [c2]
  have e4 := ex_new (o := .lst (((Rh.st (rises vs) N j).2.take A).map V.int)) hp2
  refine ⟨p1, p2, _, _, rfl, rfl, e4 _ _ upd_same, upd_same, ?_, fun p3 hp3 => ?_⟩
  · rw [List.length_map, List.length_map, List.length_drop, List.length_take]
    omega
  have e5 := ex_new (o := .lst (((Rh.st (rises vs) N j).2.drop (A + 1)).map V.int ++ ((Rh.st (rises vs) N j).2.take A).map V.int)) hp3
  have e25 := ex_trans e3 (ex_trans e4 e5)
  have hlen3 := Rh.st_len (rises vs) N (j + 1) (by omega)
  have hrow : ((Rh.st (rises vs) N j).2.drop (A + 1)).map V.int ++ ((Rh.st (rises vs) N j).2.take A).map V.int = (Rh.st (rises vs) N (j + 1)).2.map V.int := by
    show _ = (Rh.cut (Rh.st (rises vs) N j).2 (Rh.atR (Rh.rI (rises vs) j) (Rh.st (rises vs) N j).2.length)).map V.int
    rw [hA]
    unfold Rh.cut
    rw [List.map_append]
  rw [hrow] at e5 e25 ⊢
  refine k _ _ ⟨j + 1, p3, q, _, _, rfl, by omega, ex_trans e2 e25, nq, ex_free (ex_trans e2 (ex_trans e3 e4)) hp3, ?_, e25 _ _ hq2, upd_same⟩ ?_
  · exact ne_of_none (ex_trans e3 e4 _ _ hq2) hp3
  · have := ordMu_of (x := some (.ref a)) (y := some (.int N)) (z := some (.ref q)) (u := some (.int (Rh.rI (rises vs) j))) (w := some (.int (A : Nat))) (show (upd (upd (upd H2 p1 (.lst (((Rh.st (rises vs) N j).2.drop (A + 1)).map V.int))) p2 (.lst (((Rh.st (rises vs) N j).2.take A).map V.int))) p3 (.lst ((Rh.st (rises vs) N (j + 1)).2.map V.int))) p3 = _ from upd_same)
    refine Nat.lt_of_le_of_lt (Nat.le_of_eq this) ?_
    rw [List.length_map, hlen3]
    omega
theorem pure_order_of {K : PySem.W.Frag} (T : RhC K) (ws : List V) (H : Hp) (Q : VK) (E : XK) (h : sp_order_of K ws H Q E) : t_order_of_0 K E { nx := fun _ H' => Q .non H', rt := Q } (start ["rhyme", "n", "row", "found", "rise", "at"] ws) H := by
  unfold sp_order_of at h
  obtain ⟨a, vs, left, N, rfl, R, ok, hN, hN2, k⟩ := h
  obtain ⟨dx, tv, tr, h1, h2, h3⟩ := id R
  have lf := ok.lf
  show t_order_of_0 K E _ [some (.ref a), some (.int N), none, none, none, none] H
  refine ⟨_, rfl, _, rfl, RgOk.of_le (by omega) (by omega) (by omega) (by omega), fun r hr => ⟨Nat.zero_le _, fun q hq => ⟨_, _, rfl, ?_⟩⟩⟩
  rw [rgV_nat] at hq ⊢
  show t_order_of_1 K E { nx := fun _ H' => Q .non H', rt := Q } [some (.ref a), some (.int N), some (.ref r), some (.ref q), none, none] _
  have e1 := ex_new (o := .lst ((Rh.st [] N 0).2.map V.int)) hr
  have e2 := ex_new (o := .lst []) hq
  unfold t_order_of_1
  refine while_by (OrdSt K H a vs left N) ordMu ⟨0, r, q, none, none, rfl, by omega, ex_trans e1 e2, ex_free e1 hq, hr, (ne_of_none upd_same hq).symm, upd_same, e2 _ _ upd_same⟩ ?_ ?_
  · rintro σ H' ⟨j, r, q, u4, u5, rfl, hj, e, nq, nr, qr, hq, hr⟩
    have hlen2 := Rh.st_len (rises vs) N j (by omega)
    refine ⟨_, rfl, r, _, rfl, .inl (SqL.of hr), _, rfl, a, _, dx, _, _, rfl, e _ _ h1, T.cl, T.nl, rhF_l _ _ _, _, _, rfl, rfl, _, rfl, ?_⟩
    rw [List.length_map, hlen2]
    by_cases c : left < ((N - j : Nat) : Int)
    · refine iteT' (decide_eq_true c) ?_
      refine order_turn (E := E) R ok T hN2 (by omega) e nq nr qr hq hr fun σ' H'' hS hM => ⟨hS, ?_⟩
      rw [ordMu_of hr, List.length_map, hlen2]
      exact hM
    · refine iteF' (decide_eq_false c) ?_
      have ej : j = N - left.toNat := by omega
      subst ej
      refine ⟨_, rfl, _, rfl, (by show 2 ≤ sizeLine; decide), fun p hp => ?_⟩
      have e3 := ex_new (o := .tup [.ref q, .ref r]) hp
      exact k p q r _ nq nr qr (ex_trans e e3) upd_same (e3 _ _ hq) (e3 _ _ hr)
  · rintro σ H' Q Q' hq ⟨x, hx, p, ys, h1, h2, y, hy, a1, C, dx1, fs, v, h3, h4, h5, h6, h7, i, j, h8, h9, b, hb, q⟩
    exact ⟨x, hx, p, ys, h1, h2, y, hy, a1, C, dx1, fs, v, h3, h4, h5, h6, h7, i, j, h8, h9, b, hb, hq _ _ q⟩
@[irreducible] def sp_order (K : PySem.W.Frag) : Sp := fun ws H Q E => ∃ (a : Addr) (vs : List Ve) (left : Int) (v : V) (d : PyData), ws = [.ref a, v] ∧ RhAt K H a vs left ∧ RhOk vs left ∧ Dp K H v d ∧
  (isBet d left 2000 = false → E (BN K "BadNumber") none H) ∧
  (∀ N : Nat, d = .int N → left ≤ N → N ≤ 2000 → ∀ (p : Addr) (H' : Hp), H p = none → Ex H H' → H' p = some (.lst ((Rh.st (rises vs) N (N - left.toNat)).1.map V.int)) → Q (.ref p) H')
def t_order_1 (K : PySem.W.Frag) (E : XK) : TS := (tRet (tOp (rIxT K) (tCall (sp_order_of K) [] E (tCons (tVar 0) (tCons (tVar 1) tNil))) (tC (.int 0))))

def t_order_0 (K : PySem.W.Frag) (E : XK) : TS := tSeq (tDrop (tCall (sp_need_number K) [] E (tCons (tVar 0) (tCons (tVar 1) (tCons (tC (.int 2000)) tNil))))) (t_order_1 K E)

theorem pure_order {K : PySem.W.Frag} (ws : List V) (H : Hp) (Q : VK) (E : XK) (h : sp_order K ws H Q E) : t_order_0 K E { nx := fun _ H' => Q .non H', rt := Q } (start ["rhyme", "n"] ws) H := by
  unfold sp_order at h
  obtain ⟨a, vs, left, v, d, rfl, R, ok, hd, k1, k2⟩ := h
  have lf := ok.lf
  show t_order_0 K E _ [some (.ref a), some v] H
  refine ⟨_, rfl, _, rfl, ?_⟩
  unfold sp_need_number
  refine ⟨a, vs, left, v, d, 2000, rfl, R, hd, fun hb => ?_, k1⟩
  obtain ⟨n, rfl, hn1, hn2⟩ := isBet_int hb
  obtain rfl := dp_int hd
  obtain ⟨N, rfl⟩ := Int.eq_ofNat_of_zero_le (show 0 ≤ n by omega)
  show t_order_1 K E { nx := fun _ H' => Q .non H', rt := Q } [some (.ref a), some (.int N)] H
  refine ⟨_, rfl, _, rfl, ?_⟩
  unfold sp_order_of
  refine ⟨a, vs, left, N, rfl, R, ok, hn1, by omega, fun p q r H' nq nr qr e hp hq hr => ?_⟩
  exact ⟨p, _, 0, _, rfl, rfl, SqT.of hp, at0, k2 N rfl hn1 (by omega) q H' nq e hq⟩

end Z
namespace Z
open PySem PySem.Spec PyProof.Rows L2
local macro_rules | `(tactic| walk_at "look") => `(tactic| first | assumption | exact upd_same | exact SqL.of (by assumption) | exact SqT.of (by assumption) | exact SqL.of upd_same | exact SqT.of upd_same)
local macro_rules | `(tactic| walk_at "at") => `(tactic| first | exact at0 | exact at1 | exact at2 | exact at3 | exact ix0 | exact ix1 | assumption | exact atI_nat (by rfl))
local macro_rules | `(tactic| walk_at "sd") => `(tactic| ((try dsimp only); first | assumption | omega | (unfold CMul; omega) | (unfold CDiv; omega) | (unfold CPow; decide) | decide))
local macro_rules | `(tactic| walk_at "st") => `(tactic| first
  | (refine ⟨_, rfl, ?_⟩)
  | (refine ⟨_, _, rfl, rfl, ?_⟩)
  | (refine ⟨rfl, ?_⟩)
  | (refine .inl ⟨_, rfl, ?_⟩)
  | (refine ⟨_, _, _, _, rfl, rfl, (by walk_at "look"), (by walk_at "at"), ?_⟩)
  | (refine ⟨_, _, rfl, .inl (by walk_at "look"), ?_⟩)
  | (refine And.intro (by walk_at "sd") ?_)
  | fail "no step")
local macro_rules | `(tactic| walk_at "go") => `(tactic| repeat' (walk_at "st"))
local macro_rules | `(tactic| walk_at "ans") => `(tactic| (intro Q q; (repeat' (walk_at "st")); exact q))

/-! ### a row turned -/
def rotN (x : List Int) (s : Nat) : List Int := x.drop s ++ x.take s
theorem rotN_len (x : List Int) (s : Nat) (h : s ≤ x.length) : (rotN x s).length = x.length := by
  unfold rotN
  rw [List.length_append, List.length_drop, List.length_take]
  omega
theorem rotN_get (x : List Int) (s i : Nat) (h : s ≤ x.length) (hi : i < x.length) : (rotN x s).getD i 0 = x.getD ((i + s) % x.length) 0 := by
  unfold rotN
  rw [List.getD_eq_getElem?_getD, List.getD_eq_getElem?_getD]
  by_cases c : i < x.length - s
  · rw [List.getElem?_append_left (by rw [List.length_drop]; exact c), List.getElem?_drop, Nat.mod_eq_of_lt (by omega)]
    congr 2
    omega
  · rw [List.getElem?_append_right (by rw [List.length_drop]; omega), List.length_drop, List.getElem?_take, if_pos (by omega)]
    have e : (i + s) % x.length = i - (x.length - s) := by
      rw [Nat.mod_eq_sub_mod (by omega), Nat.mod_eq_of_lt (by omega)]
      omega
    rw [e]
theorem ext_getD {x y : List Int} (hl : x.length = y.length) (h : ∀ i, i < x.length → x.getD i 0 = y.getD i 0) : x = y := by
  refine List.ext_getElem? fun i => ?_
  by_cases c : i < x.length
  · have := h i c
    rw [getD_at (l := x) (d := 0) c, getD_at (l := y) (d := 0) (by omega), this]
  · rw [List.getElem?_eq_none_iff.mpr (by omega), List.getElem?_eq_none_iff.mpr (by omega)]
/-- x is l turned by z -/
structure IsRot (l : List Int) (z : Int) (x : List Int) : Prop where
  len : x.length = l.length
  get : ∀ i : Nat, i < l.length → x.getD i 0 = l.getD ((z + (i : Int)) % (l.length : Int)).toNat 0
theorem IsRot.zero (l : List Int) : IsRot l 0 l := ⟨rfl, fun i hi => by
  have e : (0 + (i : Int)) % (l.length : Int) = (i : Int) := by
    rw [Int.zero_add]
    exact Int.emod_eq_of_lt (by omega) (by omega)
  rw [e]
  rfl⟩
theorem IsRot.turn {l x : List Int} {z : Int} (h : IsRot l z x) (s : Nat) (hs : s ≤ l.length) (h0 : 0 < l.length) : IsRot l (z + (s : Int)) (rotN x s) := by
  refine ⟨?_, fun i hi => ?_⟩
  · rw [rotN_len _ _ (by rw [h.len]; exact hs), h.len]
  · rw [rotN_get _ _ _ (by rw [h.len]; exact hs) (by rw [h.len]; exact hi), h.len, h.get _ (Nat.mod_lt _ h0)]
    congr 2
    have e : ((((i + s) % l.length : Nat) : Nat) : Int) = ((i : Int) + (s : Int)) % (l.length : Int) := by
      rw [Int.natCast_emod, Int.natCast_add]
    rw [e, Int.add_emod_emod]
    congr 1
    omega
theorem IsRot.per {l x : List Int} {z w : Int} (h : IsRot l z x) (e : w = z - (l.length : Int)) : IsRot l w x := ⟨h.len, fun i hi => by
  rw [h.get i hi, e]
  congr 2
  have : z - (l.length : Int) + (i : Int) = z + (i : Int) - (l.length : Int) := by omega
  rw [this, Int.sub_emod_right]⟩
theorem IsRot.left {l x : List Int} {z : Int} (h : IsRot l z x) (h0 : 0 < l.length) : IsRot l (z + 1) (rotN x 1) := h.turn 1 (by omega) h0
theorem IsRot.right {l x : List Int} {z : Int} (h : IsRot l z x) (h0 : 0 < l.length) : IsRot l (z - 1) (rotN x (l.length - 1)) :=
  (h.turn (l.length - 1) (by omega) h0).per (by omega)
theorem IsRot.first {l x : List Int} {r : Int} (h : IsRot l (r - 1) x) (h1 : 1 < l.length) : x.getD 0 0 = l.getD (Rh.atR r l.length) 0 ∧ x.drop 1 = Rh.cut l (Rh.atR r l.length) := by
  constructor
  · rw [h.get 0 (by omega)]
    unfold Rh.atR
    congr 3
    omega
  · refine ext_getD ?_ fun i hi => ?_
    · rw [List.length_drop, Rh.cut_length (Rh.atR_lt (by omega)), h.len]
    · rw [List.length_drop, h.len] at hi
      rw [Rh.cut_get (by omega), List.getD_eq_getElem?_getD, List.getElem?_drop, ← List.getD_eq_getElem?_getD, h.get _ (by omega)]
      congr 3
      omega
theorem IsRot.last {l x : List Int} {r : Int} (h : IsRot l r x) (h1 : 1 < l.length) : x.getD (l.length - 1) 0 = l.getD (Rh.atR r l.length) 0 ∧ x.dropLast = Rh.cut l (Rh.atR r l.length) := by
  constructor
  · rw [h.get _ (by omega)]
    unfold Rh.atR
    congr 2
    have e : r + ((l.length - 1 : Nat) : Int) = r - 1 + (l.length : Int) := by omega
    rw [e, Int.add_emod_right]
  · refine ext_getD ?_ fun i hi => ?_
    · rw [List.length_dropLast, Rh.cut_length (Rh.atR_lt (by omega)), h.len]
    · rw [List.length_dropLast, h.len] at hi
      rw [Rh.cut_get (by omega), List.getD_eq_getElem?_getD, List.getElem?_dropLast, if_pos (by rw [h.len]; exact hi), ← List.getD_eq_getElem?_getD, h.get _ (by omega)]
      congr 3
      omega
/-! ### the law's round -/
@[irreducible] def sp_law_round (K : PySem.W.Frag) : Sp := fun ws H Q _ => ∃ (t : V) (vs : List Ve) (left : Int) (N : Nat), ws = [t, .int N] ∧ Dp K H t (tD vs left) ∧ RhOk vs left ∧ left ≤ N ∧ N ≤ 5000 ∧
  ∀ (p q r : Addr) (H' : Hp), H p = none → H q = none → H r = none → q ≠ r → Ex H H' → H' p = some (.lst [.ref q, .ref r]) → H' q = some (.lst ((Rh.st (rises vs) N (N - left.toNat)).1.map V.int)) → H' r = some (.lst ((Rh.st (rises vs) N (N - left.toNat)).2.map V.int)) → Q (.ref p) H'
def t_law_round_2a_1a_0 (K : PySem.W.Frag) (E : XK) : TS := (tAsg (tIf (tTest (tOp rEq (tVar 4) (tC (.str "on")))) (tOp rCat (tSl (rSlL K) (tVar 2) (tPart (tC (.int 1))) tNoPart) (tSl (rSlL K) (tVar 2) tNoPart (tPart (tC (.int 1))))) (tOp rCat (tSl (rSlL K) (tVar 2) (tPart (tUn oNeg (tC (.int 1)))) tNoPart) (tSl (rSlL K) (tVar 2) tNoPart (tPart (tUn oNeg (tC (.int 1))))))) (gName 2))

def t_law_round_2a_2a_0 (K : PySem.W.Frag) (E : XK) : TS := (tDrop (tBM K "list" rAppend (tVar 3) (tCons (tBM K "list" rPopAt (tVar 2) (tCons (tC (.int 0)) tNil)) tNil)))

def t_law_round_2a_2b_0 (K : PySem.W.Frag) (E : XK) : TS := (tDrop (tBM K "list" rAppend (tVar 3) (tCons (tBM0 K "list" rPop (tVar 2)) tNil)))

@[irreducible] def t_law_round_2a_2 (K : PySem.W.Frag) (E : XK) : TS := (tIfS (tTest (tOp rEq (tVar 4) (tC (.str "on"))))
    (t_law_round_2a_2a_0 K E) (t_law_round_2a_2b_0 K E))

@[irreducible] def t_law_round_2a_1 (K : PySem.W.Frag) (E : XK) : TS := tSeq (tFor (iRng1 (tCons (tOp oSub (tVar 5) (tC (.int 1))) tNil)) (gName 6)
    (t_law_round_2a_1a_0 K E)) (t_law_round_2a_2 K E)

def t_law_round_2a_0 (K : PySem.W.Frag) (E : XK) : TS := tSeq (tAsg (tOp (rIxT K) (tOp (rIxT K) (tVar 0) (tC (.int 0))) (tOp oMod (tCB (cLen K) (tCons (tVar 3) tNil)) (tCB (cLen K) (tCons (tOp (rIxT K) (tVar 0) (tC (.int 0))) tNil)))) (gTup K 2 (gCons (gName 4) (gCons (gName 5) gNil)))) (t_law_round_2a_1 K E)

def t_law_round_3 (K : PySem.W.Frag) (E : XK) : TS := (tRet (tLst (tCons (tVar 3) (tCons (tVar 2) tNil))))

@[irreducible] def t_law_round_2 (K : PySem.W.Frag) (E : XK) : TS := tSeq (tWhile (tTest (tOp oGt (tCB (cLen K) (tCons (tVar 2) tNil)) (tOp (rIxT K) (tVar 0) (tC (.int 1)))))
    (t_law_round_2a_0 K E)) (t_law_round_3 K E)

def t_law_round_1 (K : PySem.W.Frag) (E : XK) : TS := tSeq (tAsg (tLst tNil) (gName 3)) (t_law_round_2 K E)

def t_law_round_0 (K : PySem.W.Frag) (E : XK) : TS := tSeq (tAsg (tLstRg (tRg1 (tVar 1))) (gName 2)) (t_law_round_1 K E)

theorem cut_neg1 (xs : List V) (h : 1 ≤ xs.length) : cutV xs (some (-1)) none = xs.drop (xs.length - 1) ∧ cutV xs none (some (-1)) = xs.take (xs.length - 1) := by
  have e : (-1 + (xs.length : Int)).toNat = xs.length - 1 := by omega
  constructor
  · show (xs.drop (-1 + (xs.length : Int)).toNat).take (xs.length - (-1 + (xs.length : Int)).toNat) = _
    rw [e]
    exact List.take_of_length_le (by rw [List.length_drop]; exact Nat.le_refl _)
  · show (xs.drop 0).take ((-1 + (xs.length : Int)).toNat - 0) = _
    rw [e, List.drop_zero, Nat.sub_zero]
def RndSt (H0 : Hp) (t : V) (vs : List Ve) (left : Int) (N : Nat) (σ : L2.St) (H : Hp) : Prop := ∃ (j : Nat) (r q : Addr) (u4 u5 u6 : Option V),
  σ = [some t, some (.int N), some (.ref r), some (.ref q), u4, u5, u6] ∧ j + left.toNat ≤ N ∧ Ex H0 H ∧ H0 q = none ∧ H0 r = none ∧ q ≠ r ∧ H q = some (.lst ((Rh.st (rises vs) N j).1.map V.int)) ∧ H r = some (.lst ((Rh.st (rises vs) N j).2.map V.int))
def rndMu (σ : L2.St) (H : Hp) : Nat := match σ with
  | [_, _, some (.ref r), _, _, _, _] => (match H r with
    | some (.lst xs) => xs.length
    | _ => 0)
  | _ => 0
theorem rndMu_of {H : Hp} {r : Addr} {xs : List V} {x y z u w w2 : Option V} (h : H r = some (.lst xs)) : rndMu [x, y, some (.ref r), z, u, w, w2] H = xs.length := by
  show (match H r with | some (.lst xs) => xs.length | _ => 0) = _
  rw [h]
/-- one turning of the row -/
theorem round_spin {K : PySem.W.Frag} {E : XK} {D : Ends} {H : Hp} {s0 s1 s3 s5 s6 : Option V} {r : Addr} {b : Bool} {x : List Int} (h1 : 1 ≤ x.length) (h5 : x.length ≤ 5000) (hr : H r = some (.lst (x.map V.int)))
    (k : ∀ (p : Addr) (H' : Hp), H p = none → Ex H H' → H' p = some (.lst ((rotN x (if b then 1 else x.length - 1)).map V.int)) → D.nx [s0, s1, some (.ref p), s3, some (.str (wayS b)), s5, s6] H') :
    t_law_round_2a_1a_0 K E D [s0, s1, some (.ref r), s3, some (.str (wayS b)), s5, s6] H := by
  have h5000 : (10001 : Nat) ≤ sizeLine := by decide
  have hxl : (x.map V.int).length = x.length := List.length_map ..
  have fin : ∀ (xs ys : List Int) (s : Nat), xs = x.drop s → ys = x.take s → s = (if b then 1 else x.length - 1) → ∀ (p1 p2 : Addr) (H2 : Hp), Ex H H2 → H2 p1 = some (.lst (xs.map V.int)) → H2 p2 = some (.lst (ys.map V.int)) → rCat (.ref p1) (.ref p2) H2 (fun y H3 => D.nx [s0, s1, some y, s3, some (.str (wayS b)), s5, s6] H3) := by
    rintro xs ys s rfl rfl rfl p1 p2 H2 e g1 g2
    refine ⟨p1, p2, _, _, rfl, rfl, g1, g2, ?_, fun p3 hp3 => ?_⟩
    · rw [List.length_map, List.length_map, List.length_drop, List.length_take]
      omega
    · refine k p3 _ (ex_free e hp3) (ex_trans e (ex_new hp3)) ?_
      rw [upd_same, ← List.map_append]
      rfl
  cases b with
  | true =>
    refine ⟨_, rfl, rfl, _, rfl, ?_⟩
    refine iteT' (decide_eq_true rfl) ⟨_, rfl, 1, rfl, r, _, rfl, SqL.of hr, fun p1 hp1 => ?_⟩
    have e1 := cut_from (x.map V.int) 1 (by rw [hxl]; exact h1)
    rw [show ((1 : Nat) : Int) = 1 from rfl, ← List.map_drop] at e1
    rw [e1]
    have ex1 := ex_new (o := .lst ((x.drop 1).map V.int)) hp1
    refine ⟨_, rfl, 1, rfl, r, _, rfl, SqL.of (ex1 _ _ hr), fun p2 hp2 => ?_⟩
    have e2 := cut_to (x.map V.int) 1 (by rw [hxl]; exact h1)
    rw [show ((1 : Nat) : Int) = 1 from rfl, ← List.map_take] at e2
    rw [e2]
    have ex2 := ex_new (o := .lst ((x.take 1).map V.int)) hp2
    exact fin _ _ 1 rfl rfl rfl p1 p2 _ (ex_trans ex1 ex2) (ex2 _ _ upd_same) upd_same
  | false =>
    refine ⟨_, rfl, rfl, _, rfl, ?_⟩
    obtain ⟨c1, c2⟩ := cut_neg1 (x.map V.int) (by rw [hxl]; exact h1)
    rw [hxl, ← List.map_drop] at c1
    rw [hxl, ← List.map_take] at c2
    refine iteF' (by rw [d_str]; decide +kernel) ⟨_, rfl, 1, rfl, _, rfl, r, _, rfl, SqL.of hr, fun p1 hp1 => ?_⟩
    rw [c1]
    have ex1 := ex_new (o := .lst ((x.drop (x.length - 1)).map V.int)) hp1
    refine ⟨_, rfl, 1, rfl, _, rfl, r, _, rfl, SqL.of (ex1 _ _ hr), fun p2 hp2 => ?_⟩
    rw [c2]
    have ex2 := ex_new (o := .lst ((x.take (x.length - 1)).map V.int)) hp2
    exact fin _ _ (x.length - 1) rfl rfl rfl p1 p2 _ (ex_trans ex1 ex2) (ex2 _ _ upd_same) upd_same
theorem seqIndex_zero {n : Nat} (h : 0 < n) : seqIndex? 0 n = some 0 := by
  unfold seqIndex?
  simp
  omega
theorem round_turn {K : PySem.W.Frag} {E : XK} {D : Ends} {H0 H : Hp} {t : V} {r q : Addr} {vs : List Ve} {left : Int} {N j : Nat} {u4 u5 u6 : Option V} (hT : Dp K H0 t (tD vs left)) (ok : RhOk vs left)
    (hN : N ≤ 5000) (hj : j + left.toNat < N) (e : Ex H0 H) (nq : H0 q = none) (nr : H0 r = none) (qr : q ≠ r) (hq : H q = some (.lst ((Rh.st (rises vs) N j).1.map V.int))) (hr : H r = some (.lst ((Rh.st (rises vs) N j).2.map V.int)))
    (k : ∀ σ H', RndSt H0 t vs left N σ H' → rndMu σ H' < N - j → D.nx σ H') :
    t_law_round_2a_0 K E D [some t, some (.int N), some (.ref r), some (.ref q), u4, u5, u6] H := by
  have l1 := ok.l1
  have lf := ok.lf
  have h5000 : (10001 : Nat) ≤ sizeLine := by decide
  have hlen1 := Rh.st_len1 (rises vs) N j
  have hlen2 := Rh.st_len (rises vs) N j (by omega)
  obtain ⟨a, v, rfl, hs, hv⟩ := tD_at hT
  obtain ⟨b, xs, rfl, hb, hall⟩ := dp_tup (id hv)
  have hl : xs.length = vs.length := by
    have := dpa_len hall
    rw [List.length_map] at this
    exact this
  -- the verse
  have hjm : (j : Int) % (vs.length : Int) = ((j % vs.length : Nat) : Int) := rfl
  have hlt : j % vs.length < vs.length := Nat.mod_lt _ (by omega)
  obtain ⟨x, hx, hdx⟩ := dpa_get hall (show (vs.map vD)[j % vs.length]? = some (vD vs[j % vs.length]) by rw [List.getElem?_map, List.getElem?_eq_getElem hlt]; rfl)
  obtain ⟨ve, tt, hve, rfl, ht⟩ := vs_at hall hx
  have hvc := ok.cnt ve (List.mem_of_getElem? hve)
  have hri : Rh.rI (rises vs) (j : Int) = riseOf ve := by
    unfold Rh.rI
    rw [rises_len, hjm]
    show (rises vs).getD (j % vs.length) 0 = _
    unfold rises
    rw [List.getD_eq_getElem?_getD, List.getElem?_map, hve]
    rfl
  refine ⟨_, rfl, a, _, 0, _, rfl, rfl, sqt_ex e hs, at0, _, rfl, q, _, rfl, .inl (SqL.of hq), _, rfl, a, _, 0, _, rfl, rfl, sqt_ex e hs, at0, b, xs, rfl, .inr (sqt_ex e hb), _, _, rfl, rfl, (by omega), ?_⟩
  rw [hl, List.length_map, hlen1]
  refine ⟨b, xs, _, _, rfl, rfl, sqt_ex e hb, at_of hjm hx, tt, _, rfl, sqt_ex e ht, rfl, _, _, rfl, _, _, rfl, rfl, ?_⟩
  show t_law_round_2a_1 K E D [some (.ref a), some (.int N), some (.ref r), some (.ref q), some (.str (wayS ve.1)), some (.int ve.2), u6] H
  unfold t_law_round_2a_1
  generalize hl0 : (Rh.st (rises vs) N j).2 = row at hr hlen2
  have hrow : row.length = N - j := hlen2
  refine ⟨_, rfl, _, _, rfl, rfl, _, rfl, (by omega), (by omega), for_range (fun i σ H' => ∃ (p : Addr) (u : Option V) (x : List Int), σ = [some (.ref a), some (.int N), some (.ref p), some (.ref q), some (.str (wayS ve.1)), some (.int ve.2), u] ∧ Ex H H' ∧ H0 p = none ∧ q ≠ p ∧ H' p = some (.lst (x.map V.int)) ∧ IsRot row (if ve.1 then (i : Int) else -(i : Int)) x)
    ⟨r, u6, row, rfl, ex_refl _, nr, qr, hr, ?_⟩ ?_ ?_⟩
  · split
    · exact IsRot.zero row
    · exact IsRot.zero row
  · rintro i σ H' hi ⟨p, u, x, rfl, e1, np, qp, hp, hrot⟩
    refine round_spin (E := E) (by rw [hrot.len]; omega) (by rw [hrot.len]; omega) hp fun p2 H2 hp2 e2 h2 => ?_
    refine ⟨p2, _, _, rfl, ex_trans e1 e2, ex_free (ex_trans e e1) hp2, ?_, h2, ?_⟩
    · exact ne_of_none (e1 _ _ hq) hp2
    · cases hw : ve.1 with
      | true =>
        rw [hw, if_pos rfl] at hrot
        rw [if_pos rfl, if_pos rfl]
        exact hrot.left (by omega)
      | false =>
        rw [hw, if_neg Bool.false_ne_true] at hrot
        rw [if_neg Bool.false_ne_true, if_neg Bool.false_ne_true, hrot.len]
        have := hrot.right (by omega)
        have ee : -((i + 1 : Nat) : Int) = -(i : Int) - 1 := by omega
        rw [ee]
        exact this
  · rintro σ H' ⟨p, u, x, rfl, e1, np, qp, hp, hrot⟩
    show t_law_round_2a_2 K E D [some (.ref a), some (.int N), some (.ref p), some (.ref q), some (.str (wayS ve.1)), some (.int ve.2), u] H'
    unfold t_law_round_2a_2
    have hq1 := e1 _ _ hq
    have hxl := hrot.len
    have hlen3 := Rh.st_len (rises vs) N (j + 1) (by omega)
    have hst : Rh.st (rises vs) N (j + 1) = ((Rh.st (rises vs) N j).1 ++ [row.getD (Rh.atR (riseOf ve) row.length) 0], Rh.cut row (Rh.atR (riseOf ve) row.length)) := by
      show ((Rh.st (rises vs) N j).1 ++ [(Rh.st (rises vs) N j).2.getD (Rh.atR (Rh.rI (rises vs) j) (Rh.st (rises vs) N j).2.length) 0], Rh.cut (Rh.st (rises vs) N j).2 (Rh.atR (Rh.rI (rises vs) j) (Rh.st (rises vs) N j).2.length)) = _
      rw [hl0, hri]
    -- a child popped and put
    have fin : ∀ (c : Int) (y : List Int), c = row.getD (Rh.atR (riseOf ve) row.length) 0 → y = Rh.cut row (Rh.atR (riseOf ve) row.length) →
        rAppend (.ref q) [.int c] (upd H' p (.lst (y.map V.int))) (fun _ H3 => D.nx [some (.ref a), some (.int N), some (.ref p), some (.ref q), some (.str (wayS ve.1)), some (.int ve.2), u] H3) := by
      rintro c y rfl rfl
      refine ⟨q, _, _, rfl, rfl, (by rw [upd_ne qp]; exact hq1), (by rw [List.length_map, hlen1]; omega), ?_⟩
      have h2 : (upd (upd H' p (.lst ((Rh.cut row (Rh.atR (riseOf ve) row.length)).map V.int))) q (.lst ((Rh.st (rises vs) N j).1.map V.int ++ [.int (row.getD (Rh.atR (riseOf ve) row.length) 0)]))) p = some (.lst ((Rh.st (rises vs) N (j + 1)).2.map V.int)) := by
        rw [upd_ne qp.symm, upd_same, hst]
      refine k _ _ ⟨j + 1, p, q, _, _, _, rfl, by omega, ex_mut (ex_mut (ex_trans e e1) np) nq, nq, np, qp, ?_, h2⟩ ?_
      · rw [upd_same, hst, List.map_append]
        rfl
      · have := rndMu_of (x := some (.ref a)) (y := some (.int N)) (z := some (.ref q)) (u := some (.str (wayS ve.1))) (w := some (.int ve.2)) (w2 := u) h2
        refine Nat.lt_of_le_of_lt (Nat.le_of_eq this) ?_
        rw [List.length_map, hlen3]
        omega
    cases hw : ve.1 with
    | true =>
      rw [hw, if_pos rfl] at hrot
      have hz : (((ve.2 - 1).toNat : Nat) : Int) = riseOf ve - 1 := by
        unfold riseOf
        rw [hw, if_pos rfl]
        omega
      rw [hz] at hrot
      obtain ⟨f1, f2⟩ := hrot.first (by omega)
      refine if_go true (fun Q q => ⟨_, rfl, rfl, true, ?_, q⟩) (fun _ => ?_) (fun z => nomatch z)
      · rw [d_str]
        rfl
      rw [hw] at fin
      refine ⟨_, rfl, .inl ⟨rfl, _, SqL.of hq1⟩, _, rfl, .inl ⟨rfl, _, SqL.of hp⟩, p, _, 0, 0, .int (x.getD 0 0), rfl, rfl, hp, by decide, by decide, ?_, ?_, ?_⟩
      · exact seqIndex_zero (by rw [List.length_map]; omega)
      · rw [List.getElem?_map, getD_at (l := x) (d := 0) (by omega)]
        rfl
      · have ee : (x.map V.int).eraseIdx 0 = (x.drop 1).map V.int := by
          cases x <;> rfl
        first
          | rw [ee]
          | skip
        exact fin _ _ f1 f2
    | false =>
      rw [hw, if_neg Bool.false_ne_true] at hrot
      have hz : -(((ve.2 - 1).toNat : Nat) : Int) = riseOf ve := by
        unfold riseOf
        rw [hw, if_neg Bool.false_ne_true]
        omega
      rw [hz] at hrot
      obtain ⟨f1, f2⟩ := hrot.last (by omega)
      refine if_go false (fun Q q => ⟨_, rfl, rfl, false, ?_, q⟩) (fun z => nomatch z) (fun _ => ?_)
      · rw [d_str]
        decide +kernel
      rw [hw] at fin
      refine ⟨_, rfl, .inl ⟨rfl, _, SqL.of hq1⟩, _, rfl, .inl ⟨rfl, _, SqL.of hp⟩, p, _, .int (x.getD (row.length - 1) 0), rfl, rfl, hp, ?_, ?_⟩
      · rw [List.length_map, hxl, List.getElem?_map, getD_at (l := x) (d := 0) (by omega)]
        rfl
      · rw [← List.map_dropLast]
        exact fin _ _ f1 f2
theorem pure_law_round {K : PySem.W.Frag} (ws : List V) (H : Hp) (Q : VK) (E : XK) (h : sp_law_round K ws H Q E) : t_law_round_0 K E { nx := fun _ H' => Q .non H', rt := Q } (start ["_law_t", "_law_n", "_law_row", "_law_went", "_law_way", "_law_count", "_law_k"] ws) H := by
  unfold sp_law_round at h
  obtain ⟨t, vs, left, N, rfl, hT, ok, hN, hN2, k⟩ := h
  obtain ⟨a, v, rfl, hs, hv⟩ := tD_at hT
  have lf := ok.lf
  show t_law_round_0 K E _ [some (.ref a), some (.int N), none, none, none, none, none] H
  refine ⟨_, rfl, _, rfl, RgOk.of_le (by omega) (by omega) (by omega) (by omega), fun r hr => ?_⟩
  rw [rgV_nat]
  have e1 := ex_new (o := .lst ((Rh.st [] N 0).2.map V.int)) hr
  refine ⟨Nat.zero_le _, fun q hq => ?_⟩
  have e2 := ex_new (o := .lst []) hq
  show t_law_round_2 K E { nx := fun _ H' => Q .non H', rt := Q } [some (.ref a), some (.int N), some (.ref r), some (.ref q), none, none, none] _
  unfold t_law_round_2
  refine while_by (RndSt H (.ref a) vs left N) rndMu ⟨0, r, q, none, none, none, rfl, by omega, ex_trans e1 e2, ex_free e1 hq, hr, (ne_of_none upd_same hq).symm, upd_same, e2 _ _ upd_same⟩ ?_ ?_
  · rintro σ H' ⟨j, r, q, u4, u5, u6, rfl, hj, e, nq, nr, qr, hq, hr⟩
    have hlen2 := Rh.st_len (rises vs) N j (by omega)
    refine ⟨_, rfl, r, _, rfl, .inl (SqL.of hr), _, rfl, a, _, 1, _, rfl, rfl, sqt_ex e hs, at1, _, _, rfl, rfl, _, rfl, ?_⟩
    rw [List.length_map, hlen2]
    by_cases c : left < ((N - j : Nat) : Int)
    · refine iteT' (decide_eq_true c) ?_
      refine round_turn (E := E) hT ok hN2 (by omega) e nq nr qr hq hr fun σ' H'' hS hM => ⟨hS, ?_⟩
      rw [rndMu_of hr, List.length_map, hlen2]
      exact hM
    · refine iteF' (decide_eq_false c) ?_
      have ej : j = N - left.toNat := by omega
      subst ej
      refine ⟨_, rfl, _, rfl, (by show 2 ≤ sizeLine; decide), fun p hp => ?_⟩
      have e3 := ex_new (o := .lst [.ref q, .ref r]) hp
      exact k p q r _ (ex_free e hp) nq nr qr (ex_trans e e3) upd_same (e3 _ _ hq) (e3 _ _ hr)
  · rintro σ H' Q Q' hq ⟨x, hx, p, ys, h1, h2, y, hy, a1, xs, i1, v1, h3, h4, h5, h6, i, j, h8, h9, b, hb, q⟩
    exact ⟨x, hx, p, ys, h1, h2, y, hy, a1, xs, i1, v1, h3, h4, h5, h6, i, j, h8, h9, b, hb, hq _ _ q⟩
/-! ### the law's number -/
@[irreducible] def sp_law_number (K : PySem.W.Frag) : Sp := fun ws H Q _ => ∃ (d : Addr) (t : V) (vs : List Ve) (left most : Int), ws = [.ref d, t, .int most] ∧ DSt H d ∧ Dp K H t (tD vs left) ∧ RhOk vs left ∧ left ≤ most ∧ most ≤ 1000 ∧
  ∀ (n : Int) (H' : Hp), left ≤ n → n ≤ most → DSt H' d → Fx d H H' → Q (.int n) H'
def t_law_number_0 (K : PySem.W.Frag) (E : XK) : TS := (tRet (tOp oAdd (tOp (rIxT K) (tVar 1) (tC (.int 1))) (tCall (sp_law_below K) [] E0 (tCons (tVar 0) (tCons (tOp oAdd (tOp oSub (tVar 2) (tOp (rIxT K) (tVar 1) (tC (.int 1)))) (tC (.int 1))) tNil)))))

theorem pure_law_number {K : PySem.W.Frag} (ws : List V) (H : Hp) (Q : VK) (E : XK) (h : sp_law_number K ws H Q E) : t_law_number_0 K E { nx := fun _ H' => Q .non H', rt := Q } (start ["_law_d", "_law_t", "_law_most"] ws) H := by
  unfold sp_law_number at h
  obtain ⟨d, t, vs, left, most, rfl, hD, hT, ok, h1, h2, k⟩ := h
  obtain ⟨a, v, rfl, hs, hv⟩ := tD_at hT
  have lf := ok.lf
  refine ⟨_, rfl, a, _, 1, _, rfl, rfl, hs, at1, _, rfl, _, rfl, _, rfl, a, _, 1, _, rfl, rfl, hs, at1, _, _, rfl, rfl, _, _, rfl, rfl, ?_⟩
  unfold sp_law_below
  refine ⟨d, most - left + 1, rfl, hD, by omega, by omega, fun r H' r0 r1 hD' f => ⟨_, _, rfl, rfl, ?_⟩⟩
  exact k (left + r) H' (by omega) (by omega) hD' f

end Z
namespace Rh
/-! ### when a child goes -/
/-- k more turns from this one on, s in, the child at place p -/
def whenR (R : List Int) : Nat → Int → Int → Int → Option Int
  | 0, _, _, _ => none
  | k + 1, t, s, p => if (p - rI R t) % s = s - 1 then some (t + 1) else whenR R k (t + 1) (s - 1) ((p - rI R t) % s)
theorem whenR_zero (R : List Int) (t s p : Int) : whenR R 0 t s p = none := rfl
theorem whenR_out {R : List Int} {k : Nat} {t s p : Int} (h : (p - rI R t) % s = s - 1) : whenR R (k + 1) t s p = some (t + 1) := if_pos h
theorem whenR_in {R : List Int} {k : Nat} {t s p : Int} (h : ¬ (p - rI R t) % s = s - 1) : whenR R (k + 1) t s p = whenR R k (t + 1) (s - 1) ((p - rI R t) % s) := if_neg h
/-- a step back of a step up -/
theorem step_back {q r s : Int} (h0 : 0 ≤ q) (h1 : q < s) : ((q + r) % s - r) % s = q := by
  rw [Int.sub_emod, Int.emod_emod_of_dvd _ (Int.dvd_refl s), ← Int.sub_emod]
  have e : q + r - r = q := by omega
  rw [e]
  exact Int.emod_eq_of_lt h0 h1
theorem step_fore {p r s : Int} (h0 : 0 ≤ p) (h1 : p < s) : ((p - r) % s + r) % s = p := by
  rw [Int.emod_add_emod]
  have e : p - r + r = p := by omega
  rw [e]
  exact Int.emod_eq_of_lt h0 h1
/-- down a way that leads up -/
theorem when_lift (R : List Int) (n : Int) (k : Nat) : ∀ (j : Nat) (s p : Int), 0 ≤ p → p < s → whenR R (k + j) (n - (s + (j : Int))) (s + (j : Int)) (lift R n j s p) = whenR R k (n - s) s p
  | 0, s, p, _, _ => by
    rw [lift_zero]
    have e : s + ((0 : Nat) : Int) = s := by omega
    rw [e]
    rfl
  | j + 1, s, p, h0, h1 => by
    have b := lift_bd R n j s p h0 h1
    have e : k + (j + 1) = (k + j) + 1 := by omega
    have e2 : s + ((j + 1 : Nat) : Int) = s + (j : Int) + 1 := by omega
    have e3 : n - (s + (j : Int) + 1) = n - (s + (j : Int)) - 1 := by omega
    rw [e, e2, e3, lift_snoc]
    have back := step_back (r := rI R (n - (s + (j : Int)) - 1)) (s := s + (j : Int) + 1) b.1 (by omega)
    rw [whenR_in (by rw [back]; omega), back]
    have e4 : n - (s + (j : Int)) - 1 + 1 = n - (s + (j : Int)) := by omega
    have e5 : s + (j : Int) + 1 - 1 = s + (j : Int) := by omega
    rw [e4, e5]
    exact when_lift R n k j s p h0 h1
/-- the sum of j rises from index a up -/
def usum (R : List Int) (a : Int) : Nat → Int
  | 0 => 0
  | j + 1 => usum R a j + rI R (a + (j : Int))
theorem usum_zero (R : List Int) (a : Int) : usum R a 0 = 0 := rfl
theorem usum_succ (R : List Int) (a : Int) (j : Nat) : usum R a (j + 1) = usum R a j + rI R (a + (j : Int)) := rfl
theorem usum_head (R : List Int) : ∀ (j : Nat) (a : Int), usum R a (j + 1) = rI R a + usum R (a + 1) j
  | 0, a => by
    rw [usum_succ, usum_zero, usum_zero]
    have e : a + ((0 : Nat) : Int) = a := by omega
    rw [e]
    omega
  | j + 1, a => by
    rw [usum_succ, usum_head R j a, usum_succ R (a + 1) j]
    have e : a + ((j + 1 : Nat) : Int) = a + 1 + (j : Int) := by omega
    rw [e]
    omega
theorem usum_per (R : List Int) (a k : Int) (j : Nat) : usum R (a + k * (R.length : Int)) j = usum R a j := by
  induction j with
  | zero => rfl
  | succ j ih =>
    rw [usum_succ, usum_succ, ih]
    have e : a + k * (R.length : Int) + (j : Int) = a + (j : Int) + k * (R.length : Int) := by omega
    rw [e, rI_perk']
theorem when_straight (R : List Int) (k : Nat) : ∀ (j : Nat) (t s p : Int), (∀ i : Nat, i < j → 0 ≤ p - usum R t (i + 1) ∧ p - usum R t (i + 1) ≤ s - (i : Int) - 2) →
    whenR R (k + j) t s p = whenR R k (t + (j : Int)) (s - (j : Int)) (p - usum R t j)
  | 0, t, s, p, _ => by
    rw [usum_zero]
    have e1 : t + ((0 : Nat) : Int) = t := by omega
    have e2 : s - ((0 : Nat) : Int) = s := by omega
    have e3 : p - 0 = p := by omega
    rw [e1, e2, e3]
    rfl
  | j + 1, t, s, p, h => by
    have h0 := h 0 (by omega)
    rw [usum_succ, usum_zero] at h0
    have e0 : t + ((0 : Nat) : Int) = t := by omega
    rw [e0] at h0
    have em : (p - rI R t) % s = p - rI R t := Int.emod_eq_of_lt (by omega) (by omega)
    have e : k + (j + 1) = (k + j) + 1 := by omega
    rw [e, whenR_in (by rw [em]; omega), em, when_straight R k j (t + 1) (s - 1) (p - rI R t) fun i hi => ?_, usum_head]
    · have e1 : t + 1 + (j : Int) = t + ((j + 1 : Nat) : Int) := by omega
      have e2 : s - 1 - (j : Int) = s - ((j + 1 : Nat) : Int) := by omega
      have e3 : p - rI R t - usum R (t + 1) j = p - (rI R t + usum R (t + 1) j) := by omega
      rw [e1, e2, e3]
    · have := h (i + 1) (by omega)
      rw [usum_head] at this
      omega
/-- L whole rhymes down -/
theorem when_leap (R : List Int) (k : Nat) (T : Int) (m : Nat) (hm : m = R.length) (t : Int) (hT : T = usum R t m) : ∀ (L : Nat) (s p : Int),
    (∀ c : Nat, c < L → ∀ i : Nat, i < m → 0 ≤ p - (c : Int) * T - usum R t (i + 1) ∧ p - (c : Int) * T - usum R t (i + 1) ≤ s - (c : Int) * (m : Int) - (i : Int) - 2) →
    ∀ d : Int, whenR R (k + L * m) (t + d * (m : Int)) s p = whenR R k (t + d * (m : Int) + (L : Int) * (m : Int)) (s - (L : Int) * (m : Int)) (p - (L : Int) * T)
  | 0, s, p, _, d => by
    rw [Nat.zero_mul]
    have e1 : t + d * (m : Int) + ((0 : Nat) : Int) * (m : Int) = t + d * (m : Int) := by simp
    have e2 : s - ((0 : Nat) : Int) * (m : Int) = s := by simp
    have e3 : p - ((0 : Nat) : Int) * T = p := by simp
    rw [e1, e2, e3]
    rfl
  | L + 1, s, p, h, d => by
    have e : k + (L + 1) * m = (k + L * m) + m := by rw [Nat.add_mul, Nat.one_mul]; omega
    have up : usum R (t + d * (m : Int)) = usum R t := by
      funext j
      rw [hm]
      exact usum_per R t d j
    rw [e, when_straight R (k + L * m) m (t + d * (m : Int)) s p (fun i hi => ?_), up, ← hT]
    · have e1 : t + d * (m : Int) + (m : Int) = t + (d + 1) * (m : Int) := by
        rw [Int.add_mul]
        omega
      rw [e1, when_leap R k T m hm t hT L (s - (m : Int)) (p - T) (fun c hc i hi => ?_) (d + 1)]
      · have f : ∀ x : Int, ((L + 1 : Nat) : Int) * x = (L : Int) * x + x := fun x => by
          rw [Int.natCast_add, Int.add_mul]; simp
        have e4 : (d + 1) * (m : Int) = d * (m : Int) + (m : Int) := by rw [Int.add_mul]; omega
        rw [f, f, e4]
        have g1 : t + (d * (m : Int) + (m : Int)) + (L : Int) * (m : Int) = t + d * (m : Int) + ((L : Int) * (m : Int) + (m : Int)) := by omega
        have g2 : s - (m : Int) - (L : Int) * (m : Int) = s - ((L : Int) * (m : Int) + (m : Int)) := by omega
        have g3 : p - T - (L : Int) * T = p - ((L : Int) * T + T) := by omega
        rw [g1, g2, g3]
      · have := h (c + 1) (by omega) i hi
        have f : ∀ x : Int, ((c + 1 : Nat) : Int) * x = (c : Int) * x + x := fun x => by
          rw [Int.natCast_add, Int.add_mul]; simp
        rw [f, f] at this
        omega
    · have := h 0 (by omega) i hi
      rw [up]
      have z : ∀ x : Int, ((0 : Nat) : Int) * x = 0 := fun x => by simp
      rw [z, z] at this
      omega
/-- what it tells -/
theorem when_some (R : List Int) (n : Int) : ∀ (k : Nat) (s p t : Int), 0 ≤ p → p < s → (k : Int) < s → 0 ≤ n - s → whenR R k (n - s) s p = some t → n - s < t ∧ t ≤ n - s + (k : Int) ∧ goneF R n t = lift R n (n - s).toNat s p
  | 0, s, p, t, _, _, _, _, h => by cases h
  | k + 1, s, p, t, h0, h1, hk, hn, h => by
    by_cases c : (p - rI R (n - s)) % s = s - 1
    · rw [whenR_out c] at h
      have et := Option.some.inj h
      subst et
      refine ⟨by omega, by omega, ?_⟩
      unfold goneF
      have e1 : n - (n - s + 1) + 1 = s := by omega
      have e2 : n - s + 1 - 1 = n - s := by omega
      have e3 : n - (n - s + 1) = s - 1 := by omega
      rw [e1, e2, e3]
      have f := step_fore (r := rI R (n - s)) h0 h1
      rw [c] at f
      rw [f]
    · rw [whenR_in c] at h
      have b0 := Int.emod_nonneg (p - rI R (n - s)) (show s ≠ 0 by omega)
      have b1 := Int.emod_lt_of_pos (p - rI R (n - s)) (show (0 : Int) < s by omega)
      have e1 : n - s + 1 = n - (s - 1) := by omega
      rw [e1] at h
      obtain ⟨g1, g2, g3⟩ := when_some R n k (s - 1) ((p - rI R (n - s)) % s) t b0 (by omega) (by omega) (by omega) h
      refine ⟨by omega, by omega, ?_⟩
      rw [g3]
      have e2 : (n - (s - 1)).toNat = (n - s).toNat + 1 := by omega
      rw [e2, lift_succ]
      have e3 : s - 1 + 1 = s := by omega
      have e4 : n - (s - 1) - 1 = n - s := by omega
      rw [e3, e4, step_fore h0 h1]
theorem when_none (R : List Int) (n : Int) : ∀ (k : Nat) (s p : Int), 0 ≤ p → p < s → (k : Int) < s → 0 ≤ n - s → whenR R k (n - s) s p = none → ∃ q : Int, 0 ≤ q ∧ q < s - (k : Int) ∧ lift R n (n - (s - (k : Int))).toNat (s - (k : Int)) q = lift R n (n - s).toNat s p
  | 0, s, p, h0, h1, _, _, _ => ⟨p, h0, by omega, by
    have e : s - ((0 : Nat) : Int) = s := by omega
    rw [e]⟩
  | k + 1, s, p, h0, h1, hk, hn, h => by
    by_cases c : (p - rI R (n - s)) % s = s - 1
    · rw [whenR_out c] at h
      cases h
    · rw [whenR_in c] at h
      have b0 := Int.emod_nonneg (p - rI R (n - s)) (show s ≠ 0 by omega)
      have b1 := Int.emod_lt_of_pos (p - rI R (n - s)) (show (0 : Int) < s by omega)
      have e1 : n - s + 1 = n - (s - 1) := by omega
      rw [e1] at h
      obtain ⟨q, g1, g2, g3⟩ := when_none R n k (s - 1) ((p - rI R (n - s)) % s) b0 (by omega) (by omega) (by omega) h
      have e5 : s - 1 - (k : Int) = s - ((k + 1 : Nat) : Int) := by omega
      rw [e5] at g2 g3
      refine ⟨q, g1, g2, ?_⟩
      rw [g3]
      have e2 : (n - (s - 1)).toNat = (n - s).toNat + 1 := by omega
      rw [e2, lift_succ]
      have e3 : s - 1 + 1 = s := by omega
      have e4 : n - (s - 1) - 1 = n - s := by omega
      rw [e3, e4, step_fore h0 h1]
end Rh
namespace Z
open PySem PySem.Spec PyProof.Rows L2
local macro_rules | `(tactic| walk_at "look") => `(tactic| first | assumption | exact upd_same | exact SqL.of (by assumption) | exact SqT.of (by assumption) | exact SqL.of upd_same | exact SqT.of upd_same)
local macro_rules | `(tactic| walk_at "at") => `(tactic| first | exact at0 | exact at1 | exact at2 | exact at3 | exact ix0 | exact ix1 | assumption | exact atI_nat (by rfl))
local macro_rules | `(tactic| walk_at "sd") => `(tactic| ((try dsimp only); first | assumption | omega | (unfold CMul; omega) | (unfold CDiv; omega) | (unfold CPow; decide) | decide))
local macro_rules | `(tactic| walk_at "st") => `(tactic| first
  | (refine ⟨_, rfl, ?_⟩)
  | (refine ⟨_, _, rfl, rfl, ?_⟩)
  | (refine ⟨rfl, ?_⟩)
  | (refine .inl ⟨_, rfl, ?_⟩)
  | (refine ⟨_, _, _, _, rfl, rfl, (by walk_at "look"), (by walk_at "at"), ?_⟩)
  | (refine ⟨_, _, rfl, .inl (by walk_at "look"), ?_⟩)
  | (refine And.intro (by walk_at "sd") ?_)
  | fail "no step")
local macro_rules | `(tactic| walk_at "go") => `(tactic| repeat' (walk_at "st"))
local macro_rules | `(tactic| walk_at "ans") => `(tactic| (intro Q q; (repeat' (walk_at "st")); exact q))

/-! ### when -/
def urow (R : List Int) (t : Int) (m : Nat) : List Int := (List.range m).map fun (i : Nat) => Rh.rI R (t + (i : Int))
theorem urow_len (R : List Int) (t : Int) (m : Nat) : (urow R t m).length = m := by
  unfold urow
  rw [List.length_map, List.length_range]
theorem urow_at {R : List Int} {t : Int} {m i : Nat} (h : i < m) : (urow R t m)[i]? = some (Rh.rI R (t + (i : Int))) := by
  unfold urow
  rw [List.getElem?_map, List.getElem?_range h]
  rfl
theorem urow_take (R : List Int) (a : Int) (m : Nat) : ∀ j : Nat, j ≤ m → ((urow R a m).take j).sum = Rh.usum R a j
  | 0, _ => by rw [Rh.usum_zero]; simp
  | j + 1, h => by
    rw [take_sum (urow_at (by omega)), urow_take R a m j (by omega), Rh.usum_succ]
theorem usums_get (R : List Int) (a : Int) (m i : Nat) (h : i < m) : (sumsL (urow R a m)).getD i 0 = Rh.usum R a (i + 1) := by
  unfold sumsL
  rw [urow_len, List.getD_eq_getElem?_getD, List.getElem?_map, List.getElem?_range h]
  exact urow_take R a m (i + 1) (by omega)
theorem usums_len (R : List Int) (a : Int) (m : Nat) : (sumsL (urow R a m)).length = m := by
  rw [sumsL_len, urow_len]
theorem usum_bd {R : List Int} (hR : ∀ i, -5 ≤ Rh.rI R i ∧ Rh.rI R i ≤ 6) (a : Int) : ∀ j : Nat, -5 * (j : Int) ≤ Rh.usum R a j ∧ Rh.usum R a j ≤ 6 * (j : Int)
  | 0 => by rw [Rh.usum_zero]; omega
  | j + 1 => by
    have := usum_bd hR a j
    have := hR (a + (j : Int))
    rw [Rh.usum_succ]
    omega
theorem urow_rev (R : List Int) (t : Int) (m : Nat) : (urow R t m).reverse = Rh.rrow R (t + (m : Int) - 1) m := by
  refine List.ext_getElem? fun i => ?_
  by_cases h : i < m
  · rw [List.getElem?_reverse (by rw [urow_len]; exact h), urow_len, urow_at (by omega), rrow_map, List.getElem?_map, List.getElem?_range h]
    show some _ = some _
    congr 2
    omega
  · rw [List.getElem?_eq_none_iff.mpr (by rw [List.length_reverse, urow_len]; omega), List.getElem?_eq_none_iff.mpr (by rw [rrow_len]; omega)]
abbrev dsum (R : List Int) (a : Int) (m : Nat) : List Int := sumsL (urow R a m)
theorem dn_get {R : List Int} {a p s c : Int} {m : Nat} (hm : 1 ≤ m) (h : Rh.Dn p s (dsum R a m) c) (i : Nat) (hi : i < m) :
    0 ≤ p - c * Rh.usum R a m - Rh.usum R a (i + 1) ∧ p - c * Rh.usum R a m - Rh.usum R a (i + 1) ≤ s - c * (m : Int) - (i : Int) - 2 := by
  have := h i (by rw [usums_len]; exact hi)
  rw [usums_len, usums_get R a m i hi, usums_get R a m (m - 1) (by omega)] at this
  have e : m - 1 + 1 = m := by omega
  rw [e] at this
  exact this
theorem dn_bd {R : List Int} {a s p : Int} {m : Nat} (h1 : 1 ≤ m) (L : Nat) (hL : 1 ≤ L) (h : ∀ c : Int, 0 ≤ c → c < (L : Int) → Rh.Dn p s (dsum R a m) c) :
    0 ≤ p - (L : Int) * Rh.usum R a m ∧ p - (L : Int) * Rh.usum R a m < s - (L : Int) * (m : Int) := by
  have := dn_get h1 (h ((L : Int) - 1) (by omega) (by omega)) (m - 1) (by omega)
  have e : m - 1 + 1 = m := by omega
  rw [e, Int.sub_mul, Int.sub_mul] at this
  omega
theorem near_dn {R : List Int} {a p s : Int} {m : Nat} (hR : ∀ i, -5 ≤ Rh.rI R i ∧ Rh.rI R i ≤ 6) (h1 : 1 ≤ m) (h4 : m ≤ 4) (hp : 0 ≤ p) (hs : p < s) (h64 : 64 < s) (h : ¬ Rh.Dn p s (dsum R a m) 0) :
    -26 ≤ (if p < s - p then p else p - s) ∧ (if p < s - p then p else p - s) ≤ 26 := by
  have key : p < 26 ∨ s - 26 ≤ p := by
    by_cases c : p < 26 ∨ s - 26 ≤ p
    · exact c
    · exfalso
      refine h fun i hi => ?_
      rw [usums_len] at hi
      rw [usums_len, usums_get R a m i hi, Int.zero_mul, Int.zero_mul]
      have := usum_bd hR a (i + 1)
      omega
  split <;> omega
def whenF (vs : List Ve) (left n c : Int) : Option Int := Rh.whenR (rises vs) (n - left).toNat 0 n c
@[irreducible] def sp_when (K : PySem.W.Frag) : Sp := fun ws H Q E => ∃ (a : Addr) (vs : List Ve) (left : Int) (v cv : V) (d cd : PyData), ws = [.ref a, v, cv] ∧ RhAt K H a vs left ∧ RhOk vs left ∧ Dp K H v d ∧ Dp K H cv cd ∧
  (isBet d left GREAT = false → E (BN K "BadNumber") none H) ∧ (∀ n, d = .int n → left ≤ n → n ≤ GREAT → (isBet cd 0 (n - 1) = false → E (BN K "BadChild") none H) ∧
    ∀ c, cd = .int c → 0 ≤ c → c ≤ n - 1 → ∀ H' : Hp, Ex H H' → Q (oV (whenF vs left n c)) H')
def t_when_1a_0 (K : PySem.W.Frag) (E : XK) : TS := (tRaise0 E (He.ga K "BadChild"))

def t_when_3a_5a_2 (K : PySem.W.Frag) (E : XK) : TS := (tAug 4 (tOp oMul (tVar 11) (tVar 3)) (ipI fun i j => i + j))

def t_when_3a_5a_1 (K : PySem.W.Frag) (E : XK) : TS := tSeq (tAug 6 (tOp oMul (tVar 11) (tVar 3)) (ipI fun i j => i - j)) (t_when_3a_5a_2 K E)

def t_when_3a_5a_0 (K : PySem.W.Frag) (E : XK) : TS := tSeq (tAug 5 (tOp oMul (tVar 11) (tOp (rIxL K) (tVar 8) (tUn oNeg (tC (.int 1))))) (ipI fun i j => i - j)) (t_when_3a_5a_1 K E)

def t_when_3a_5b_0a_3 (K : PySem.W.Frag) (E : XK) : TS := (tAug 4 (tOp oMul (tVar 11) (tVar 3)) (ipI fun i j => i + j))

def t_when_3a_5b_0a_2 (K : PySem.W.Frag) (E : XK) : TS := tSeq (tAug 6 (tOp oMul (tVar 11) (tVar 3)) (ipI fun i j => i - j)) (t_when_3a_5b_0a_3 K E)

def t_when_3a_5b_0a_1 (K : PySem.W.Frag) (E : XK) : TS := tSeq (tAug 5 (tOp oMul (tOp oMul (tVar 11) (tVar 3)) (tCB cInt (tCons (tOp oLt (tCall (sp_beside K) [] E (tCons (tVar 5) (tCons (tVar 6) tNil))) (tC (.int 0))) tNil))) (ipI fun i j => i - j)) (t_when_3a_5b_0a_2 K E)

def t_when_3a_5b_0a_0 (K : PySem.W.Frag) (E : XK) : TS := tSeq (tAsg (tOp oFdv (tOp oSub (tVar 6) (tC (.int 64))) (tVar 3)) (gName 11)) (t_when_3a_5b_0a_1 K E)

def t_when_3a_5b_0b_2a_0 (K : PySem.W.Frag) (E : XK) : TS := (tRet (tVar 4))

def t_when_3a_5b_0b_3 (K : PySem.W.Frag) (E : XK) : TS := (tAug 6 (tC (.int 1)) (ipI fun i j => i - j))

@[irreducible] def t_when_3a_5b_0b_2 (K : PySem.W.Frag) (E : XK) : TS := tSeq (tIfS (tTest (tOp rEq (tVar 5) (tOp oSub (tVar 6) (tC (.int 1)))))
    (t_when_3a_5b_0b_2a_0 K E) tNext) (t_when_3a_5b_0b_3 K E)

def t_when_3a_5b_0b_1 (K : PySem.W.Frag) (E : XK) : TS := tSeq (tAug 4 (tC (.int 1)) (ipI fun i j => i + j)) (t_when_3a_5b_0b_2 K E)

def t_when_3a_5b_0b_0 (K : PySem.W.Frag) (E : XK) : TS := tSeq (tAsg (tOp oMod (tOp oSub (tVar 5) (tOp (rIxL K) (tVar 7) (tC (.int 0)))) (tVar 6)) (gName 5)) (t_when_3a_5b_0b_1 K E)

@[irreducible] def t_when_3a_5b_0 (K : PySem.W.Frag) (E : XK) : TS := (tIfS (tAnd (tTest (tOp oGt (tVar 6) (tOp oAdd (tC (.int 64)) (tVar 3)))) (tB (tCall (sp_does_stay K) [] E (tCons (tRevL K (tVar 7)) (tCons (tCall (sp_beside K) [] E (tCons (tVar 5) (tCons (tVar 6) tNil))) tNil)))))
    (t_when_3a_5b_0a_0 K E) (t_when_3a_5b_0b_0 K E))

@[irreducible] def t_when_3a_5 (K : PySem.W.Frag) (E : XK) : TS := (tIfS (tTest (tOp oGt (tVar 11) (tC (.int 0))))
    (t_when_3a_5a_0 K E) (t_when_3a_5b_0 K E))

def t_when_3a_4 (K : PySem.W.Frag) (E : XK) : TS := tSeq (tAsg (tIf (tTest (tOp oIsN (tVar 10) (tC .non))) (tVar 9) (tCB cMin2 (tCons (tVar 10) (tCons (tVar 9) tNil)))) (gName 11)) (t_when_3a_5 K E)

def t_when_3a_3 (K : PySem.W.Frag) (E : XK) : TS := tSeq (tAsg (tCall (sp_falls K) [] E (tCons (tVar 5) (tCons (tVar 6) (tCons (tVar 8) tNil)))) (gName 10)) (t_when_3a_4 K E)

def t_when_3a_2 (K : PySem.W.Frag) (E : XK) : TS := tSeq (tAsg (tOp oFdv (tOp oSub (tVar 6) (tFld K (tVar 0) "own_left")) (tVar 3)) (gName 9)) (t_when_3a_3 K E)

def t_when_3a_1 (K : PySem.W.Frag) (E : XK) : TS := tSeq (tAsg (tCall (sp_sums_of K) [] E (tCons (tVar 7) tNil)) (gName 8)) (t_when_3a_2 K E)

def t_when_3a_0 (K : PySem.W.Frag) (E : XK) : TS := tSeq (tAsg (tLc (iRng1 (tCons (tVar 3) tNil)) (gName 12) tYes (tOp (rIxT K) (tFld K (tVar 0) "rises") (tOp oMod (tOp oAdd (tVar 4) (tVar 12)) (tVar 3))) [12]) (gName 7)) (t_when_3a_1 K E)

def t_when_4 (K : PySem.W.Frag) (E : XK) : TS := (tRet (tC .non))

@[irreducible] def t_when_3 (K : PySem.W.Frag) (E : XK) : TS := tSeq (tWhile (tTest (tOp oGt (tVar 6) (tFld K (tVar 0) "own_left")))
    (t_when_3a_0 K E)) (t_when_4 K E)

def t_when_2 (K : PySem.W.Frag) (E : XK) : TS := tSeq (tAsg (tTup (tCons (tCB (cLen K) (tCons (tFld K (tVar 0) "rises") tNil)) (tCons (tC (.int 0)) (tCons (tVar 2) (tCons (tVar 1) tNil))))) (gTup K 4 (gCons (gName 3) (gCons (gName 4) (gCons (gName 5) (gCons (gName 6) gNil)))))) (t_when_3 K E)

@[irreducible] def t_when_1 (K : PySem.W.Frag) (E : XK) : TS := tSeq (tIfS (tNot (tB (tCall (sp_is_between K) [] E (tCons (tVar 2) (tCons (tC (.int 0)) (tCons (tOp oSub (tVar 1) (tC (.int 1))) tNil))))))
    (t_when_1a_0 K E) tNext) (t_when_2 K E)

def t_when_0 (K : PySem.W.Frag) (E : XK) : TS := tSeq (tDrop (tCall (sp_need_number K) [(.int 1000000000000000000000000000000)] E (tCons (tVar 0) (tCons (tVar 1) tNil)))) (t_when_1 K E)

def WhenSt (H0 : Hp) (a : Addr) (vs : List Ve) (left n : Int) (x2 : Option V) (goal : Option Int) (σ : L2.St) (H : Hp) : Prop := ∃ (turn place size : Int) (u7 u8 u9 u10 u11 u12 : Option V),
  σ = [some (.ref a), some (.int n), x2, some (.int (vs.length : Nat)), some (.int turn), some (.int place), some (.int size), u7, u8, u9, u10, u11, u12] ∧ 0 ≤ place ∧ place < size ∧ left ≤ size ∧ turn = n - size ∧ Ex H0 H ∧ Rh.whenR (rises vs) (size - left).toNat turn size place = goal ∧ u12 = none
def whenMu (σ : L2.St) (_ : Hp) : Nat := match σ with
  | [_, _, _, _, _, _, some (.int size), _, _, _, _, _, _] => size.toNat
  | _ => 0
theorem when_turn {K : PySem.W.Frag} {E : XK} {D : Ends} {H0 H : Hp} {a : Addr} {vs : List Ve} {left n turn place size : Int} {goal : Option Int} {x2 u7 u8 u9 u10 u11 u12 : Option V} (R : RhAt K H0 a vs left) (ok : RhOk vs left) (T : RhC K)
    (hp : 0 ≤ place) (hs : place < size) (hl : left < size) (ht : turn = n - size) (e : Ex H0 H) (hg : Rh.whenR (rises vs) (size - left).toNat turn size place = goal) (hu : u12 = none)
    (k : ∀ σ H', WhenSt H0 a vs left n x2 goal σ H' → whenMu σ H' < size.toNat → D.nx σ H') (kr : ∀ t H', goal = some t → Ex H0 H' → D.rt (.int t) H') :
    t_when_3a_0 K E D [some (.ref a), some (.int n), x2, some (.int (vs.length : Nat)), some (.int turn), some (.int place), some (.int size), u7, u8, u9, u10, u11, u12] H := by
  subst hu
  have l1 := ok.l1
  have l4 := ok.l4
  have lf := ok.lf
  have hR := rise_bd ok
  have hm : vs.length = (rises vs).length := (rises_len vs).symm
  obtain ⟨dx, tv, tr, g1, g2, g3⟩ := id (rh_ex e R)
  refine ⟨_, rfl, _, rfl, by omega, by omega, fun pr hpr => lc_map walk_range (fun i => .int (Rh.rI (rises vs) (turn + (i : Int)))) hpr (Nat.lt_of_le_of_lt (by omega : _ ≤ 4) (by decide)) (fun _ _ => trivial) ?_ ?_⟩
  · rintro i x H3 H4 hi e3 ⟨rfl, rfl⟩ Q Zf q
    refine ⟨rfl, iteT (B := Zf H4) ?_⟩
    refine ⟨_, rfl, a, _, dx, _, _, rfl, e3 _ _ g1, T.cl, T.nr, rhF_r _ _ _, _, rfl, _, rfl, _, _, rfl, rfl, _, rfl, _, _, rfl, rfl, (by omega), ?_⟩
    have er := rise_at (R := rises vs) (by rw [rises_len]; omega) (turn + (0 + (i : Int)))
    rw [rises_len] at er
    refine ⟨tr, _, _, _, rfl, rfl, sqt_ex e3 g3, er, ?_⟩
    have e0 : turn + (0 + (i : Int)) = turn + (i : Int) := by omega
    rw [e0]
    exact q _ (ex_refl _)
  intro H1 e1 hr
  have hr : H1 pr = some (.lst ((urow (rises vs) turn vs.length).map V.int)) := by
    rw [hr]
    unfold urow
    rw [List.map_map]
    rfl
  show t_when_3a_1 K E D [some (.ref a), some (.int n), x2, some (.int (vs.length : Nat)), some (.int turn), some (.int place), some (.int size), some (.ref pr), u8, u9, u10, u11, none] H1
  refine ⟨_, rfl, ?_⟩
  unfold sp_sums_of
  refine ⟨pr, _, rfl, SqL.of hr, (by rw [urow_len]; omega), fun ps H2 _ e2 hsm => ?_⟩
  show t_when_3a_2 K E D [some (.ref a), some (.int n), x2, some (.int (vs.length : Nat)), some (.int turn), some (.int place), some (.int size), some (.ref pr), some (.ref ps), u9, u10, u11, none] H2
  have e02 : Ex H H2 := ex_trans e1 e2
  refine ⟨_, rfl, _, rfl, a, _, dx, _, _, rfl, e02 _ _ g1, T.cl, T.nl, rhF_l _ _ _, _, _, rfl, rfl, _, rfl, _, _, rfl, rfl, ⟨by omega, by omega⟩, ?_⟩
  show t_when_3a_3 K E D [some (.ref a), some (.int n), x2, some (.int (vs.length : Nat)), some (.int turn), some (.int place), some (.int size), some (.ref pr), some (.ref ps), some (.int ((size - left) / (vs.length : Int))), u10, u11, none] H2
  generalize hmost : (size - left) / (vs.length : Int) = most
  refine ⟨_, rfl, _, rfl, _, rfl, ?_⟩
  unfold sp_falls
  have hT : (dsum (rises vs) turn vs.length).getD ((dsum (rises vs) turn vs.length).length - 1) 0 = Rh.usum (rises vs) turn vs.length := by
    rw [usums_len, usums_get _ _ _ _ (by omega)]
    congr 1
    omega
  have hTb := usum_bd hR turn vs.length
  refine ⟨place, size, ps, _, rfl, SqL.of hsm, (by rw [usums_len]; omega), (by rw [usums_len]; omega), (by rw [hT]; omega), (by rw [hT]; omega), fun H3 e3 => ?_⟩
  have told := Rh.falls_told place size (dsum (rises vs) turn vs.length)
  generalize hf : Rh.fallsF place size (dsum (rises vs) turn vs.length) = found at told
  show t_when_3a_4 K E D [some (.ref a), some (.int n), x2, some (.int (vs.length : Nat)), some (.int turn), some (.int place), some (.int size), some (.ref pr), some (.ref ps), some (.int most), some (oV found), u11, none] H3
  have hmost1 : most * (vs.length : Int) ≤ size - left := by
    rw [← hmost]
    exact Int.ediv_mul_le _ (by omega)
  have hmost0 : 0 ≤ most := by
    rw [← hmost]
    exact Int.ediv_nonneg (by omega) (by omega)
  have hmost2 : 64 + (vs.length : Int) < size → 0 < most := fun h => by
    rw [← hmost]
    have : 1 ≤ (size - left) / (vs.length : Int) := Int.le_ediv_of_mul_le (by omega) (by omega)
    omega
  have e03 : Ex H0 H3 := ex_trans e (ex_trans e02 e3)
  have go : ∀ leap : Int, (0 < leap → leap ≤ most ∧ ∀ c : Int, 0 ≤ c → c < leap → Rh.Dn place size (dsum (rises vs) turn vs.length) c) → (leap ≤ 0 → 0 < most → ¬ Rh.Dn place size (dsum (rises vs) turn vs.length) 0) →
      t_when_3a_5 K E D [some (.ref a), some (.int n), x2, some (.int (vs.length : Nat)), some (.int turn), some (.int place), some (.int size), some (.ref pr), some (.ref ps), some (.int most), some (oV found), some (.int leap), none] H3 := by
    intro leap w1 w2
    unfold t_when_3a_5
    refine if_go (decide (0 < leap)) (by walk_at "ans") (fun c => ?_) (fun c => ?_)
    · have c := of_decide_eq_true c
      obtain ⟨gm, gu⟩ := w1 c
      obtain ⟨L, rfl⟩ := Int.eq_ofNat_of_zero_le (Int.le_of_lt c)
      have hLm : (L : Int) * (vs.length : Int) ≤ size - left := Int.le_trans (Int.mul_le_mul_of_nonneg_right gm (by omega)) hmost1
      have hLp : 0 < (L : Int) * (vs.length : Int) := Int.mul_pos c (by omega)
      have hbd := dn_bd (R := rises vs) (a := turn) l1 L (by omega) gu
      have hlp := Rh.when_leap (rises vs) (size - (L : Int) * (vs.length : Int) - left).toNat _ vs.length hm turn rfl L size place (fun c hc i hi => dn_get l1 (gu (c : Int) (by omega) (by omega)) i hi) 0
      have z0 : turn + 0 * (vs.length : Int) = turn := by simp
      rw [z0] at hlp
      refine ⟨_, rfl, _, rfl, _, rfl, _, rfl, ps, _, _, _, rfl, rfl, sq_ex e3 (SqL.of hsm), last_at (by rw [usums_len]; omega), _, _, rfl, rfl, ?_, _, _, rfl, rfl, ?_⟩
      · rw [hT]
        exact .inr ⟨by omega, by omega⟩
      · refine ⟨_, rfl, _, rfl, _, rfl, _, _, rfl, rfl, .inr ⟨by omega, by omega⟩, _, _, rfl, rfl, ?_⟩
        refine ⟨_, rfl, _, rfl, _, rfl, _, _, rfl, rfl, .inr ⟨by omega, by omega⟩, _, _, rfl, rfl, ?_⟩
        refine k _ _ ⟨turn + (L : Int) * (vs.length : Int), place - (L : Int) * Rh.usum (rises vs) turn vs.length, size - (L : Int) * (vs.length : Int), _, _, _, _, _, _, by rw [hT]; rfl, hbd.1, hbd.2, by omega, by omega, e03, ?_, rfl⟩ ?_
        · rw [← hg, ← hlp]
          congr 1
          have : ((L * vs.length : Nat) : Int) = (L : Int) * (vs.length : Int) := Int.natCast_mul ..
          omega
        · show (size - (L : Int) * (vs.length : Int)).toNat < _
          omega
    · have c := of_decide_eq_false c
      unfold t_when_3a_5b_0
      have hrr : SqL K H3 pr ((urow (rises vs) turn vs.length).map V.int) := sq_ex (ex_trans e2 e3) (SqL.of hr)
      generalize hb : (if place < size - place then place else place - size) = b
      have hpl : Rh.pl size b = place := by
        rw [← hb]
        exact pl_beside hp hs
      have besid : ∀ (G : Hp) (E : XK) (Q : VK), Q (.int b) G → sp_beside K ([.int place, .int size] ++ []) G Q E := fun G E Q q => by
        unfold sp_beside
        refine ⟨place, size, rfl, ?_⟩
        rw [hb]
        exact q
      refine if_goH (decide (64 + (vs.length : Int) < size) && decide (Rh.stays (Rh.rrow (rises vs) (turn + (vs.length : Int) - 1) vs.length) b = b)) (fun Q q => ?_) (fun H4 e4 cc => ?_) (fun H4 e4 cc => ?_)
      · refine ⟨_, rfl, _, rfl, _, _, rfl, rfl, _, _, rfl, rfl, _, rfl, ?_⟩
        by_cases c1 : 64 + (vs.length : Int) < size
        · rw [decide_eq_true c1] at q ⊢
          refine iteT ⟨_, rfl, pr, _, rfl, hrr, fun pv hpv => ?_⟩
          refine ⟨_, rfl, _, rfl, besid _ _ _ ?_⟩
          unfold sp_does_stay
          rw [← List.map_reverse, urow_rev]
          exact ⟨pv, _, b, rfl, SqL.of upd_same, _, rfl, q _ (ex_new hpv)⟩
        · rw [decide_eq_false c1] at q ⊢
          exact iteF (q _ (ex_refl _))
      · obtain ⟨c1, c3⟩ := Bool.and_eq_true_iff.mp cc
        have c1 := of_decide_eq_true c1
        have c3 := of_decide_eq_true c3
        have hnear := near_dn (a := turn) hR l1 l4 hp hs (by omega) (w2 (by omega) (hmost2 c1))
        rw [hb] at hnear
        refine ⟨_, rfl, _, _, rfl, rfl, _, rfl, _, _, rfl, rfl, ⟨by omega, by omega⟩, ?_⟩
        show t_when_3a_5b_0a_1 K E D [some (.ref a), some (.int n), x2, some (.int (vs.length : Nat)), some (.int turn), some (.int place), some (.int size), some (.ref pr), some (.ref ps), some (.int most), some (oV found), some (.int ((size - 64) / (vs.length : Int))), none] H4
        have hL0 : 1 ≤ (size - 64) / (vs.length : Int) := Int.le_ediv_of_mul_le (by omega) (by omega)
        have hL1 : (size - 64) / (vs.length : Int) * (vs.length : Int) ≤ size - 64 := Int.ediv_mul_le _ (by omega)
        generalize (size - 64) / (vs.length : Int) = lp at hL0 hL1
        obtain ⟨L, rfl⟩ := Int.eq_ofNat_of_zero_le (show 0 ≤ lp by omega)
        have ec : ((L * vs.length : Nat) : Int) = (L : Int) * (vs.length : Int) := Int.natCast_mul ..
        have hLp : 0 < (L : Int) * (vs.length : Int) := Int.mul_pos (by omega) (by omega)
        have hidx : Rh.rrow (rises vs) (n - (size - (L : Int) * (vs.length : Int)) - 1) vs.length = Rh.rrow (rises vs) (turn + (vs.length : Int) - 1) vs.length := by
          have e9 : n - (size - (L : Int) * (vs.length : Int)) - 1 - ((L : Int) - 1) * ((rises vs).length : Int) = turn + (vs.length : Int) - 1 := by
            rw [← hm, Int.sub_mul]
            omega
          rw [← e9, Rh.rrow_per]
        have hst := Rh.lift_stay (rises vs) n (size - (L : Int) * (vs.length : Int)) b vs.length hm l4 hR (by omega) hnear (by rw [hidx]; exact c3) L
        have e10 : size - (L : Int) * (vs.length : Int) + (L : Int) * (vs.length : Int) = size := by omega
        rw [e10, hpl] at hst
        have b0 : 0 ≤ Rh.pl (size - (L : Int) * (vs.length : Int)) b := by
          unfold Rh.pl
          split <;> omega
        have b1 : Rh.pl (size - (L : Int) * (vs.length : Int)) b < size - (L : Int) * (vs.length : Int) := by
          unfold Rh.pl
          split <;> omega
        have hwl := Rh.when_lift (rises vs) n (size - (L : Int) * (vs.length : Int) - left).toNat (L * vs.length) _ _ b0 b1
        rw [hst, ec, e10] at hwl
        refine ⟨_, rfl, _, rfl, _, rfl, _, _, rfl, rfl, .inr ⟨by omega, by omega⟩, _, rfl, _, rfl, besid _ _ _ ⟨_, _, rfl, rfl, .inr ⟨_, rfl, _, _, rfl, rfl, .inr ?_, _, _, rfl, rfl, ?_⟩⟩⟩
        · constructor <;> split <;> decide
        · refine ⟨_, rfl, _, rfl, _, rfl, _, _, rfl, rfl, .inr ⟨by omega, by omega⟩, _, _, rfl, rfl, ?_⟩
          refine ⟨_, rfl, _, rfl, _, rfl, _, _, rfl, rfl, .inr ⟨by omega, by omega⟩, _, _, rfl, rfl, ?_⟩
          have hnew : place - (L : Int) * (vs.length : Nat) * (if decide (b < 0) = true then 1 else 0) = Rh.pl (size - (L : Int) * (vs.length : Int)) b := by
            rw [← hpl]
            unfold Rh.pl
            by_cases cb : b < 0
            · rw [decide_eq_true cb, if_pos rfl, if_pos cb, if_pos cb]
              omega
            · rw [decide_eq_false cb, if_neg Bool.false_ne_true, if_neg cb, if_neg cb]
              omega
          refine k _ _ ⟨turn + (L : Int) * (vs.length : Int), Rh.pl (size - (L : Int) * (vs.length : Int)) b, size - (L : Int) * (vs.length : Int), _, _, _, _, _, _, by rw [← hnew]; rfl, b0, b1, by omega, by omega, ex_trans e03 e4, ?_, rfl⟩ ?_
          · rw [← hg]
            have es : (size - left).toNat = (size - (L : Int) * (vs.length : Int) - left).toNat + L * vs.length := by omega
            have et : n - (size - (L : Int) * (vs.length : Int)) = turn + (L : Int) * (vs.length : Int) := by omega
            rw [es, ht, hwl, et, ht]
          · show (size - (L : Int) * (vs.length : Int)).toNat < _
            omega
      · have h0 : atI ((urow (rises vs) turn vs.length).map V.int) 0 = some (.int (Rh.rI (rises vs) turn)) := by
          refine at_of (j := 0) rfl ?_
          rw [List.getElem?_map, urow_at (by omega)]
          have e0 : turn + ((0 : Nat) : Int) = turn := by omega
          rw [e0]
          rfl
        have b0 := Int.emod_nonneg (place - Rh.rI (rises vs) turn) (show size ≠ 0 by omega)
        have b1 := Int.emod_lt_of_pos (place - Rh.rI (rises vs) turn) (show (0 : Int) < size by omega)
        have es : (size - left).toNat = (size - 1 - left).toNat + 1 := by omega
        rw [es] at hg
        refine ⟨_, rfl, _, rfl, pr, _, _, _, rfl, rfl, sq_ex e4 hrr, h0, _, _, rfl, rfl, _, rfl, _, _, rfl, rfl, by omega, ?_⟩
        refine ⟨_, rfl, _, _, rfl, rfl, ?_⟩
        show t_when_3a_5b_0b_2 K E D [some (.ref a), some (.int n), x2, some (.int (vs.length : Nat)), some (.int (turn + 1)), some (.int ((place - Rh.rI (rises vs) turn) % size)), some (.int size), some (.ref pr), some (.ref ps), some (.int most), some (oV found), some (.int leap), none] H4
        unfold t_when_3a_5b_0b_2
        refine if_go (decide ((place - Rh.rI (rises vs) turn) % size = size - 1)) (fun Q q => ⟨_, rfl, _, rfl, _, _, rfl, rfl, rfl, _, rfl, by rw [d_int]; exact q⟩) (fun c => ?_) (fun c => ?_)
        · have c := of_decide_eq_true c
          rw [Rh.whenR_out c] at hg
          exact ⟨_, rfl, kr _ _ hg.symm (ex_trans e03 e4)⟩
        · have c := of_decide_eq_false c
          rw [Rh.whenR_in c] at hg
          refine ⟨_, rfl, _, _, rfl, rfl, ?_⟩
          refine k _ _ ⟨turn + 1, (place - Rh.rI (rises vs) turn) % size, size - 1, _, _, _, _, _, _, rfl, b0, by omega, by omega, by omega, ex_trans e03 e4, hg, rfl⟩ ?_
          show (size - 1).toNat < _
          omega
  refine ⟨_, rfl, rfl, _, rfl, ?_⟩
  rw [oV_none]
  cases hfo : found with
  | none =>
    rw [hfo] at told go
    refine iteT ⟨_, rfl, ?_⟩
    refine go most (fun _ => ⟨Int.le_refl _, fun c h0 _ => told.1 rfl c h0⟩) (fun h h2 => by omega)
  | some x =>
    rw [hfo] at told go
    obtain ⟨x0, xu, xn⟩ := told.2 x rfl
    refine iteF ⟨_, rfl, _, rfl, x, most, rfl, ?_⟩
    by_cases c : most < x
    · rw [if_pos c]
      exact go most (fun _ => ⟨Int.le_refl _, fun c h0 h1 => xu c h0 (by omega)⟩) (fun h h2 => by omega)
    · rw [if_neg c]
      refine go x (fun _ => ⟨by omega, xu⟩) (fun h h2 => ?_)
      have : x = 0 := by omega
      rw [this] at xn
      exact xn
theorem pure_when {K : PySem.W.Frag} (T : RhC K) (ws : List V) (H : Hp) (Q : VK) (E : XK) (h : sp_when K ws H Q E) : t_when_0 K E { nx := fun _ H' => Q .non H', rt := Q } (start ["rhyme", "n", "child", "many", "turn", "place", "size", "row", "sums", "most", "found", "leap", "at"] ws) H := by
  unfold sp_when at h
  obtain ⟨a, vs, left, v, cv, d, cd, rfl, R, ok, hd, hcd, k1, k2⟩ := h
  obtain ⟨dx, vv, tr, h1, h2, h3⟩ := id R
  have hl : ((rises vs).map V.int).length = vs.length := by rw [List.length_map, rises_len]
  show t_when_0 K E _ [some (.ref a), some v, some cv, none, none, none, none, none, none, none, none, none, none] H
  refine ⟨_, rfl, _, rfl, ?_⟩
  unfold sp_need_number
  refine ⟨a, vs, left, v, d, GREAT, rfl, R, hd, fun hb => ?_, k1⟩
  obtain ⟨n, rfl, hn1, hn2⟩ := isBet_int hb
  obtain rfl := dp_int hd
  obtain ⟨k3, k4⟩ := k2 n rfl hn1 hn2
  have lf := ok.lf
  have l1 := ok.l1
  show t_when_1 K E { nx := fun _ H' => Q .non H', rt := Q } [some (.ref a), some (.int n), some cv, none, none, none, none, none, none, none, none, none, none] H
  unfold t_when_1
  refine if_go (!(isBet cd 0 (n - 1))) (fun Q q => ?_) (fun c => ?_) (fun c => ?_)
  · refine ⟨_, rfl, _, rfl, _, _, rfl, rfl, ?_⟩
    unfold sp_is_between
    exact ⟨cv, cd, 0, n - 1, rfl, hcd, _, rfl, q⟩
  · refine k3 ?_
    cases z : isBet cd 0 (n - 1) with
    | false => rfl
    | true => rw [z] at c; cases c
  · have hb2 : isBet cd 0 (n - 1) = true := by
      cases z : isBet cd 0 (n - 1) with
      | true => rfl
      | false => rw [z] at c; cases c
    obtain ⟨t, rfl, ht1, ht2⟩ := isBet_int hb2
    obtain rfl := dp_int hcd
    have k5 := k4 t rfl ht1 ht2
    show t_when_2 K E { nx := fun _ H' => Q .non H', rt := Q } [some (.ref a), some (.int n), some (.int t), none, none, none, none, none, none, none, none, none, none] H
    refine ⟨_, rfl, a, _, dx, _, _, rfl, h1, T.cl, T.nr, rhF_r _ _ _, tr, _, rfl, .inr h3, _, rfl, _, rfl, (by show 4 ≤ sizeLine; decide), fun p hp => ?_⟩
    have e1 := ex_new (o := .tup [V.int (((rises vs).map V.int).length : Nat), V.int 0, V.int t, V.int n]) hp
    refine ⟨p, _, rfl, SqT.of upd_same, rfl, _, _, rfl, _, _, rfl, _, _, rfl, _, _, rfl, rfl, ?_⟩
    show t_when_3 K E { nx := fun _ H' => Q .non H', rt := Q } [some (.ref a), some (.int n), some (.int t), some (.int (((rises vs).map V.int).length : Nat)), some (.int 0), some (.int t), some (.int n), none, none, none, none, none, none] _
    rw [hl]
    rw [hl] at e1
    unfold t_when_3
    refine while_by (WhenSt H a vs left n (some (.int t)) (whenF vs left n t)) whenMu ⟨0, t, n, none, none, none, none, none, none, rfl, ht1, by omega, hn1, by omega, e1, rfl, rfl⟩ ?_ ?_
    · rintro σ H' ⟨turn, place, size, u7, u8, u9, u10, u11, u12, rfl, hp', hs', hls, htu, e, hg, hu⟩
      refine ⟨_, rfl, _, rfl, a, _, dx, _, _, rfl, e _ _ h1, T.cl, T.nl, rhF_l _ _ _, _, _, rfl, rfl, _, rfl, ?_⟩
      by_cases c : left < size
      · refine iteT' (decide_eq_true c) ?_
        refine when_turn (E := E) R ok T hp' hs' c htu e hg hu (fun σ' H'' hS hM => ⟨hS, hM⟩) (fun t' H'' ht' e' => ?_)
        rw [ht'] at k5
        exact k5 H'' e'
      · refine iteF' (decide_eq_false c) ?_
        have e0 : (size - left).toNat = 0 := by omega
        rw [e0, Rh.whenR_zero] at hg
        rw [← hg] at k5
        exact k5 H' e
    · rintro σ H' Q Q' hq ⟨x, hx, y, hy, a1, C, dx1, fs, v, h3, h4, h5, h6, h7, i, j, h8, h9, b, hb, q⟩
      exact ⟨x, hx, y, hy, a1, C, dx1, fs, v, h3, h4, h5, h6, h7, i, j, h8, h9, b, hb, hq _ _ q⟩

end Z
namespace Z
open PySem PySem.Spec PyProof.Rows L2
/-! ### the order, and who goes when -/
theorem order_split {vs : List Ve} {left : Int} {N : Nat} (ok : RhOk vs left) (h : left ≤ N) : sortI (Rh.st (rises vs) N (N - left.toNat)).2 = keptL vs left N := by
  have lf := ok.lf
  unfold keptL
  rw [Rh.st_snd (rises vs) N (N - left.toNat) (by omega)]
  congr 2
  omega
theorem order_heir {vs : List Ve} {left : Int} {N : Nat} (ok : RhOk vs left) (h : left ≤ N) : (Rh.st (rises vs) N (N - left.toNat)).2.getD 0 0 = heirF vs left N := by
  have lf := ok.lf
  rw [Rh.st_get (rises vs) N (N - left.toNat) 0 (by omega) (by omega)]
  unfold heirF
  have e1 : ((N : Int) - ((N - left.toNat : Nat) : Int)) = left := by omega
  have e2 : ((N : Int) - left).toNat = N - left.toNat := by omega
  rw [e1, e2]
  rfl
theorem order_gone {vs : List Ve} {left : Int} {N i : Nat} (h : i < N - left.toNat) : (Rh.st (rises vs) N (N - left.toNat)).1[i]? = some (Rh.goneF (rises vs) N ((i : Int) + 1)) := by
  rw [Rh.st_fst (rises vs) N (N - left.toNat) (Nat.sub_le ..)]
  unfold Rh.goneL
  rw [List.getElem?_map, List.getElem?_range h]
  rfl
theorem order_nodup (vs : List Ve) (left : Int) (N : Nat) : ((Rh.st (rises vs) N (N - left.toNat)).1 ++ (Rh.st (rises vs) N (N - left.toNat)).2).Nodup := by
  refine (Rh.st_perm (rises vs) N (N - left.toNat) (Nat.sub_le ..)).nodup_iff.mpr ?_
  refine List.Pairwise.map _ (fun a b h z => h ?_) List.nodup_range
  omega
theorem order_mem {vs : List Ve} {left : Int} {N : Nat} {c : Int} (h0 : 0 ≤ c) (h1 : c < N) : c ∈ (Rh.st (rises vs) N (N - left.toNat)).1 ++ (Rh.st (rises vs) N (N - left.toNat)).2 := by
  refine (Rh.st_perm (rises vs) N (N - left.toNat) (Nat.sub_le ..)).mem_iff.mpr ?_
  exact List.mem_map.mpr ⟨c.toNat, List.mem_range.mpr (by omega), by omega⟩
theorem when_go {vs : List Ve} {left n c : Int} (ok : RhOk vs left) (hn : left ≤ n) (h0 : 0 ≤ c) (h1 : c ≤ n - 1) :
    (∀ t, whenF vs left n c = some t → 1 ≤ t ∧ t ≤ n - left ∧ Rh.goneF (rises vs) n t = c) ∧
    (whenF vs left n c = none → ∃ q : Int, 0 ≤ q ∧ q < left ∧ Rh.lift (rises vs) n (n - left).toNat left q = c) := by
  have lf := ok.lf
  have e0 : n - n = 0 := by omega
  have ez : Rh.lift (rises vs) n (n - n).toNat n c = c := by
    rw [e0]
    rfl
  constructor
  · intro t ht
    unfold whenF at ht
    rw [← e0] at ht
    obtain ⟨g1, g2, g3⟩ := Rh.when_some (rises vs) n (n - left).toNat n c t h0 (by omega) (by omega) (by omega) ht
    rw [ez] at g3
    exact ⟨by omega, by omega, g3⟩
  · intro ht
    unfold whenF at ht
    rw [← e0] at ht
    obtain ⟨q, q0, q1, hq⟩ := Rh.when_none (rises vs) n (n - left).toNat n c h0 (by omega) (by omega) (by omega) ht
    rw [ez] at hq
    have e1 : n - (((n - left).toNat : Nat) : Int) = left := by omega
    rw [e1] at q1 hq
    exact ⟨q, q0, q1, hq⟩
/-- the turn by which a child goes, read off the order -/
theorem order_when {vs : List Ve} {left : Int} {N : Nat} {c : Int} (ok : RhOk vs left) (h : left ≤ N) (h0 : 0 ≤ c) (h1 : c < N) :
    (∃ j : Nat, whenF vs left N c = some ((j : Int) + 1) ∧ (Rh.st (rises vs) N (N - left.toNat)).1[j]? = some c ∧ ∀ m, m < j → ∀ z, (Rh.st (rises vs) N (N - left.toNat)).1[m]? = some z → z ≠ c) ∨
    (whenF vs left N c = none ∧ ¬ c ∈ (Rh.st (rises vs) N (N - left.toNat)).1) := by
  have lf := ok.lf
  obtain ⟨w1, w2⟩ := when_go (n := (N : Int)) ok h h0 (by omega)
  have nd := order_nodup vs left N
  cases hw : whenF vs left N c with
  | some t =>
    obtain ⟨t1, t2, t3⟩ := w1 t hw
    have hj := order_gone (vs := vs) (left := left) (N := N) (i := (t - 1).toNat) (by omega)
    have et : (((t - 1).toNat : Nat) : Int) + 1 = t := by omega
    rw [et, t3] at hj
    refine .inl ⟨(t - 1).toNat, by rw [et], hj, fun m hm z hz e => ?_⟩
    subst e
    have nd1 := (List.nodup_append.mp nd).1
    obtain ⟨b1, g1⟩ := List.getElem?_eq_some_iff.mp hz
    obtain ⟨b2, g2⟩ := List.getElem?_eq_some_iff.mp hj
    exact List.pairwise_iff_getElem.mp nd1 m (t - 1).toNat b1 b2 hm (g1.trans g2.symm)
  | none =>
    refine .inr ⟨rfl, fun hm => ?_⟩
    obtain ⟨q, q0, q1, hq⟩ := w2 hw
    have hrow : c ∈ (Rh.st (rises vs) N (N - left.toNat)).2 := by
      rw [Rh.st_snd (rises vs) N (N - left.toNat) (by omega)]
      unfold Rh.rowL
      refine List.mem_map.mpr ⟨q.toNat, List.mem_range.mpr (by omega), ?_⟩
      have e1 : ((N - (N - left.toNat) : Nat) : Int) = left := by omega
      have e2 : ((q.toNat : Nat) : Int) = q := by omega
      rw [e1, e2]
      exact hq
    exact (List.nodup_append.mp nd).2.2 c hm c hrow rfl
end Z
namespace Z
open PySem PySem.Spec PyProof.Rows L2
local macro_rules | `(tactic| walk_at "look") => `(tactic| first | assumption | exact upd_same | exact SqL.of (by assumption) | exact SqT.of (by assumption) | exact SqL.of upd_same | exact SqT.of upd_same)
local macro_rules | `(tactic| walk_at "at") => `(tactic| first | exact at0 | exact at1 | exact at2 | exact at3 | exact ix0 | exact ix1 | assumption | exact atI_nat (by rfl))
local macro_rules | `(tactic| walk_at "sd") => `(tactic| ((try dsimp only); first | assumption | omega | (unfold CMul; omega) | (unfold CDiv; omega) | (unfold CPow; decide) | decide))
local macro_rules | `(tactic| walk_at "st") => `(tactic| first
  | (refine ⟨_, rfl, ?_⟩)
  | (refine ⟨_, _, rfl, rfl, ?_⟩)
  | (refine ⟨rfl, ?_⟩)
  | (refine .inl ⟨_, rfl, ?_⟩)
  | (refine ⟨_, _, _, _, rfl, rfl, (by walk_at "look"), (by walk_at "at"), ?_⟩)
  | (refine ⟨_, _, rfl, .inl (by walk_at "look"), ?_⟩)
  | (refine And.intro (by walk_at "sd") ?_)
  | fail "no step")
local macro_rules | `(tactic| walk_at "go") => `(tactic| repeat' (walk_at "st"))
local macro_rules | `(tactic| walk_at "ans") => `(tactic| (intro Q q; (repeat' (walk_at "st")); exact q))

/-! ### told, or what was raised -/
/-- how own errors are caught -/
structure ExM (K : PySem.W.Frag) (a b : String) : Prop where
  aa : PySem.W.exmOne K (BN K a) (BN K a) = some true
  bb : PySem.W.exmOne K (BN K b) (BN K b) = some true
  ba : PySem.W.exmOne K (BN K b) (BN K a) = some false
@[irreducible] def sp_law_gone (K : PySem.W.Frag) : Sp := fun ws H Q _ => ∃ (a : Addr) (vs : List Ve) (left : Int) (v tv : V) (d td : PyData), ws = [.ref a, v, tv] ∧ RhAt K H a vs left ∧ RhOk vs left ∧ Dp K H v d ∧ Dp K H tv td ∧
  (isBet d left GREAT = false → Q (.str "number") H) ∧ (∀ n, d = .int n → left ≤ n → n ≤ GREAT → (isBet td 1 (n - left) = false → Q (.str "turn") H) ∧
    ∀ t, td = .int t → 1 ≤ t → t ≤ n - left → ∀ H' : Hp, Ex H H' → Q (.int (Rh.goneF (rises vs) n t)) H')
def t_law_gone_1a_0 (K : PySem.W.Frag) (W : WX) (E : XK) : TS := (tAsg (tCallSD (sp_gone K) [] (WE W) (tCons (tVar 0) (tCons (tVar 1) (tCons (tVar 2) tNil)))) (gName 3))

def t_law_gone_1h0_0 (K : PySem.W.Frag) (E : XK) : TS := (tAsg (tC (.str "number")) (gName 3))

def t_law_gone_1h1_0 (K : PySem.W.Frag) (E : XK) : TS := (tAsg (tC (.str "turn")) (gName 3))

def t_law_gone_2 (K : PySem.W.Frag) (E : XK) : TS := (tRet (tVar 3))

@[irreducible] def t_law_gone_1 (K : PySem.W.Frag) (E : XK) : TS := tSeq (tTry K (fun W => (t_law_gone_1a_0 K W E)) E [(.ref (He.ga K "BadNumber"), fun _ _ _ => (t_law_gone_1h0_0 K E)), (.ref (He.ga K "BadTurn"), fun _ _ _ => (t_law_gone_1h1_0 K E))]) (t_law_gone_2 K E)

def t_law_gone_0 (K : PySem.W.Frag) (E : XK) : TS := tSeq (tAsg (tC .non) (gName 3)) (t_law_gone_1 K E)

theorem pure_law_gone {K : PySem.W.Frag} (X : ExM K "BadNumber" "BadTurn") (ws : List V) (H : Hp) (Q : VK) (E : XK) (h : sp_law_gone K ws H Q E) : t_law_gone_0 K E { nx := fun _ H' => Q .non H', rt := Q } (start ["_law_rhyme", "_law_n", "_law_turn", "_law_told"] ws) H := by
  unfold sp_law_gone at h
  obtain ⟨a, vs, left, v, tv, d, td, rfl, R, ok, hd, htd, k1, k2⟩ := h
  show t_law_gone_1 K E { nx := fun _ H' => Q .non H', rt := Q } [some (.ref a), some v, some tv, some .non] H
  unfold t_law_gone_1
  refine ⟨_, rfl, _, rfl, _, rfl, ?_⟩
  unfold sp_gone
  refine ⟨a, vs, left, v, tv, d, td, rfl, R, ok, hd, htd, fun hb => ?_, fun n en h1 h2 => ⟨fun hb => ?_, fun t et t1 t2 H' e => ?_⟩⟩
  · exact many_0 X.aa fun _ _ => ⟨_, rfl, k1 hb⟩
  · exact many_1 X.ba (many_0 X.bb fun _ _ => ⟨_, rfl, (k2 n en h1 h2).1 hb⟩)
  · exact ⟨_, rfl, (k2 n en h1 h2).2 t et t1 t2 H' e⟩
@[irreducible] def sp_law_when (K : PySem.W.Frag) : Sp := fun ws H Q _ => ∃ (a : Addr) (vs : List Ve) (left : Int) (v cv : V) (d cd : PyData), ws = [.ref a, v, cv] ∧ RhAt K H a vs left ∧ RhOk vs left ∧ Dp K H v d ∧ Dp K H cv cd ∧
  (isBet d left GREAT = false → Q (.str "number") H) ∧ (∀ n, d = .int n → left ≤ n → n ≤ GREAT → (isBet cd 0 (n - 1) = false → Q (.str "child") H) ∧
    ∀ c, cd = .int c → 0 ≤ c → c ≤ n - 1 → ∀ H' : Hp, Ex H H' → Q (oV (whenF vs left n c)) H')
def t_law_when_1a_0 (K : PySem.W.Frag) (W : WX) (E : XK) : TS := (tAsg (tCallSD (sp_when K) [] (WE W) (tCons (tVar 0) (tCons (tVar 1) (tCons (tVar 2) tNil)))) (gName 3))

def t_law_when_1h0_0 (K : PySem.W.Frag) (E : XK) : TS := (tAsg (tC (.str "number")) (gName 3))

def t_law_when_1h1_0 (K : PySem.W.Frag) (E : XK) : TS := (tAsg (tC (.str "child")) (gName 3))

def t_law_when_2 (K : PySem.W.Frag) (E : XK) : TS := (tRet (tVar 3))

@[irreducible] def t_law_when_1 (K : PySem.W.Frag) (E : XK) : TS := tSeq (tTry K (fun W => (t_law_when_1a_0 K W E)) E [(.ref (He.ga K "BadNumber"), fun _ _ _ => (t_law_when_1h0_0 K E)), (.ref (He.ga K "BadChild"), fun _ _ _ => (t_law_when_1h1_0 K E))]) (t_law_when_2 K E)

def t_law_when_0 (K : PySem.W.Frag) (E : XK) : TS := tSeq (tAsg (tC .non) (gName 3)) (t_law_when_1 K E)

theorem pure_law_when {K : PySem.W.Frag} (X : ExM K "BadNumber" "BadChild") (ws : List V) (H : Hp) (Q : VK) (E : XK) (h : sp_law_when K ws H Q E) : t_law_when_0 K E { nx := fun _ H' => Q .non H', rt := Q } (start ["_law_rhyme", "_law_n", "_law_child", "_law_told"] ws) H := by
  unfold sp_law_when at h
  obtain ⟨a, vs, left, v, tv, d, td, rfl, R, ok, hd, htd, k1, k2⟩ := h
  show t_law_when_1 K E { nx := fun _ H' => Q .non H', rt := Q } [some (.ref a), some v, some tv, some .non] H
  unfold t_law_when_1
  refine ⟨_, rfl, _, rfl, _, rfl, ?_⟩
  unfold sp_when
  refine ⟨a, vs, left, v, tv, d, td, rfl, R, ok, hd, htd, fun hb => ?_, fun n en h1 h2 => ⟨fun hb => ?_, fun t et t1 t2 H' e => ?_⟩⟩
  · exact many_0 X.aa fun _ _ => ⟨_, rfl, k1 hb⟩
  · exact many_1 X.ba (many_0 X.bb fun _ _ => ⟨_, rfl, (k2 n en h1 h2).1 hb⟩)
  · exact ⟨_, rfl, (k2 n en h1 h2).2 t et t1 t2 H' e⟩
/-- how many refuse -/
def refN (d : PyData) (left : Int) : Int := (if isBet d left 2000 then 0 else 1) + (if isBet d left GREAT then 0 else 1) + (if isBet d left GREAT then 0 else 1)
@[irreducible] def sp_law_refused (K : PySem.W.Frag) : Sp := fun ws H Q _ => ∃ (a : Addr) (vs : List Ve) (left : Int) (v : V) (d : PyData), ws = [.ref a, v] ∧ RhAt K H a vs left ∧ RhOk vs left ∧ Dp K H v d ∧ ∀ H', Ex H H' → Q (.int (refN d left)) H'
def t_law_refused_1a_0 (K : PySem.W.Frag) (W : WX) (E : XK) : TS := (tDrop (tCallSD (sp_order K) [] (WE W) (tCons (tVar 0) (tCons (tVar 1) tNil))))

def t_law_refused_1h0_0 (K : PySem.W.Frag) (E : XK) : TS := (tAsg (tOp oAdd (tVar 2) (tC (.int 1))) (gName 2))

def t_law_refused_2a_0 (K : PySem.W.Frag) (W : WX) (E : XK) : TS := (tDrop (tCallSD (sp_kept K) [] (WE W) (tCons (tVar 0) (tCons (tVar 1) tNil))))

def t_law_refused_2h0_0 (K : PySem.W.Frag) (E : XK) : TS := (tAsg (tOp oAdd (tVar 2) (tC (.int 1))) (gName 2))

def t_law_refused_3a_0 (K : PySem.W.Frag) (W : WX) (E : XK) : TS := (tDrop (tCallSD (sp_heir K) [] (WE W) (tCons (tVar 0) (tCons (tVar 1) tNil))))

def t_law_refused_3h0_0 (K : PySem.W.Frag) (E : XK) : TS := (tAsg (tOp oAdd (tVar 2) (tC (.int 1))) (gName 2))

def t_law_refused_4 (K : PySem.W.Frag) (E : XK) : TS := (tRet (tVar 2))

@[irreducible] def t_law_refused_3 (K : PySem.W.Frag) (E : XK) : TS := tSeq (tTry K (fun W => (t_law_refused_3a_0 K W E)) E [(.ref (He.ga K "BadNumber"), fun _ _ _ => (t_law_refused_3h0_0 K E))]) (t_law_refused_4 K E)

@[irreducible] def t_law_refused_2 (K : PySem.W.Frag) (E : XK) : TS := tSeq (tTry K (fun W => (t_law_refused_2a_0 K W E)) E [(.ref (He.ga K "BadNumber"), fun _ _ _ => (t_law_refused_2h0_0 K E))]) (t_law_refused_3 K E)

@[irreducible] def t_law_refused_1 (K : PySem.W.Frag) (E : XK) : TS := tSeq (tTry K (fun W => (t_law_refused_1a_0 K W E)) E [(.ref (He.ga K "BadNumber"), fun _ _ _ => (t_law_refused_1h0_0 K E))]) (t_law_refused_2 K E)

def t_law_refused_0 (K : PySem.W.Frag) (E : XK) : TS := tSeq (tAsg (tC (.int 0)) (gName 2)) (t_law_refused_1 K E)

theorem pure_law_refused {K : PySem.W.Frag} (X : PySem.W.exmOne K (BN K "BadNumber") (BN K "BadNumber") = some true) (ws : List V) (H : Hp) (Q : VK) (E : XK) (h : sp_law_refused K ws H Q E) : t_law_refused_0 K E { nx := fun _ H' => Q .non H', rt := Q } (start ["_law_rhyme", "_law_n", "_law_found"] ws) H := by
  unfold sp_law_refused at h
  obtain ⟨a, vs, left, v, d, rfl, R, ok, hd, k⟩ := h
  have lf := ok.lf
  have p3 : ∀ (c : Int) (H1 : Hp), Ex H H1 → c + (if isBet d left GREAT then 0 else 1) = refN d left → t_law_refused_3 K E { nx := fun _ H' => Q .non H', rt := Q } [some (.ref a), some v, some (.int c)] H1 := by
    intro c H1 e1 hc
    unfold t_law_refused_3
    refine ⟨_, rfl, _, rfl, ?_⟩
    unfold sp_heir
    refine ⟨a, vs, left, v, d, rfl, rh_ex e1 R, ok, dp_ex e1 hd, fun hb => ?_, fun n en h1 h2 H' e => ?_⟩
    · rw [hb, if_neg Bool.false_ne_true] at hc
      refine many_0 X fun _ _ => ⟨_, rfl, _, _, rfl, rfl, _, rfl, ?_⟩
      show Q (.int (c + 1)) H1
      rw [hc]
      exact k H1 e1
    · have hb : isBet d left GREAT = true := by
        rw [en]
        exact isBet_of h1 h2
      rw [hb, if_pos rfl, Int.add_zero] at hc
      rw [← hc] at k
      exact ⟨_, rfl, k H' (ex_trans e1 e)⟩
  have p2 : ∀ (c : Int) (H1 : Hp), Ex H H1 → c + (if isBet d left GREAT then 0 else 1) + (if isBet d left GREAT then 0 else 1) = refN d left → t_law_refused_2 K E { nx := fun _ H' => Q .non H', rt := Q } [some (.ref a), some v, some (.int c)] H1 := by
    intro c H1 e1 hc
    unfold t_law_refused_2
    refine ⟨_, rfl, _, rfl, ?_⟩
    unfold sp_kept
    refine ⟨a, vs, left, v, d, rfl, rh_ex e1 R, ok, dp_ex e1 hd, fun hb => ?_, fun n en h1 h2 p H' _ e _ => ?_⟩
    · refine many_0 X fun _ _ => ⟨_, rfl, _, _, rfl, rfl, p3 (c + 1) H1 e1 ?_⟩
      rw [← hc, hb, if_neg Bool.false_ne_true]
    · have hb : isBet d left GREAT = true := by
        rw [en]
        exact isBet_of h1 h2
      refine p3 c H' (ex_trans e1 e) ?_
      rw [← hc, hb, if_pos rfl]
      omega
  show t_law_refused_1 K E { nx := fun _ H' => Q .non H', rt := Q } [some (.ref a), some v, some (.int 0)] H
  unfold t_law_refused_1
  refine ⟨_, rfl, _, rfl, ?_⟩
  unfold sp_order
  refine ⟨a, vs, left, v, d, rfl, R, ok, hd, fun hb => ?_, fun N en h1 h2 p H' _ e _ => ?_⟩
  · refine many_0 X fun _ _ => ⟨_, rfl, _, _, rfl, rfl, p2 (0 + 1) H (ex_refl _) ?_⟩
    unfold refN
    rw [hb, if_neg Bool.false_ne_true]
    omega
  · have hb : isBet d left 2000 = true := by
      rw [en]
      exact isBet_of h1 (by omega)
    refine p2 0 H' e ?_
    unfold refN
    rw [hb, if_pos rfl]

end Z
namespace Z
open PySem PySem.Spec PyProof.Rows L2
local macro_rules | `(tactic| walk_at "look") => `(tactic| first | assumption | exact upd_same | exact SqL.of (by assumption) | exact SqT.of (by assumption) | exact SqL.of upd_same | exact SqT.of upd_same)
local macro_rules | `(tactic| walk_at "at") => `(tactic| first | exact at0 | exact at1 | exact at2 | exact at3 | exact ix0 | exact ix1 | assumption | exact atI_nat (by rfl))
local macro_rules | `(tactic| walk_at "sd") => `(tactic| ((try dsimp only); first | assumption | omega | (unfold CMul; omega) | (unfold CDiv; omega) | (unfold CPow; decide) | decide))
local macro_rules | `(tactic| walk_at "st") => `(tactic| first
  | (refine ⟨_, rfl, ?_⟩)
  | (refine ⟨_, _, rfl, rfl, ?_⟩)
  | (refine ⟨rfl, ?_⟩)
  | (refine .inl ⟨_, rfl, ?_⟩)
  | (refine ⟨_, _, _, _, rfl, rfl, (by walk_at "look"), (by walk_at "at"), ?_⟩)
  | (refine ⟨_, _, rfl, .inl (by walk_at "look"), ?_⟩)
  | (refine And.intro (by walk_at "sd") ?_)
  | fail "no step")
local macro_rules | `(tactic| walk_at "go") => `(tactic| repeat' (walk_at "st"))
local macro_rules | `(tactic| walk_at "ans") => `(tactic| (intro Q q; (repeat' (walk_at "st")); exact q))

/-! ### equal data -/
mutual
theorem same_refl : ∀ (n : Nat) (d : PyData), okD n d → same d d = true
  | _, .none, _ => rfl
  | _, .bool b, _ => decide_eq_true rfl
  | _, .int b, _ => decide_eq_true rfl
  | _, .str b, _ => decide_eq_true rfl
  | n + 1, .list ds, h => sameA_refl n ds h.2
  | n + 1, .tuple ds, h => sameA_refl n ds h.2
  | 0, .list _, h => h.elim
  | 0, .tuple _, h => h.elim
  | 0, .dict _, h => h.elim
  | _ + 1, .dict _, h => h.elim
theorem sameA_refl : ∀ (n : Nat) (ds : List PyData), (∀ d ∈ ds, okD n d) → sameA ds ds = true
  | _, [], _ => rfl
  | n, d :: ds, h => by
    show (same d d && sameA ds ds) = true
    rw [same_refl n d (h d (List.mem_cons_self ..)), sameA_refl n ds fun e he => h e (List.mem_cons_of_mem _ he)]
    rfl
end
def dInts (l : List Int) : PyData := .list (l.map PyData.int)
theorem dInts_ok {l : List Int} (n : Nat) (h : l.length ≤ 10000) : okD (n + 1) (dInts l) := by
  refine ⟨by rw [List.length_map]; exact h, fun d hd => ?_⟩
  obtain ⟨i, _, rfl⟩ := List.mem_map.mp hd
  cases n <;> trivial
theorem dInts_at {K : PySem.W.Frag} {H : Hp} {p : Addr} {l : List Int} (h : H p = some (.lst (l.map V.int))) : Dp K H (.ref p) (dInts l) := .lst (SqL.of h) (dpa_ints l)
def dOpt : Option Int → PyData
  | none => .none
  | some i => .int i
theorem dpa_opts {K : PySem.W.Frag} {H : Hp} : ∀ l : List (Option Int), DpAll K H (l.map oV) (l.map dOpt)
  | [] => .nil
  | none :: l => .cons .non (dpa_opts l)
  | some i :: l => .cons (.int i) (dpa_opts l)
theorem dOpts_ok {l : List (Option Int)} (n : Nat) (h : l.length ≤ 10000) : okD (n + 1) (.list (l.map dOpt)) := by
  refine ⟨by rw [List.length_map]; exact h, fun d hd => ?_⟩
  obtain ⟨i, _, rfl⟩ := List.mem_map.mp hd
  cases i <;> cases n <;> trivial
/-- two values of the same data -/
theorem equal_go {K : PySem.W.Frag} {H : Hp} {x y : V} {d : PyData} {Q : VK} {E : XK} (hx : Dp K H x d) (hy : Dp K H y d) (ok : okD 3 d) (q : ∀ H', Ex H H' → Q (.bl true) H') : sp_law_equal 4 K [x, y] H Q E := by
  unfold sp_law_equal
  refine ⟨x, y, d, d, rfl, hx, hy, ok, fun H' e => ?_⟩
  rw [same_refl 3 d ok]
  exact q H' e
theorem eqV_int (i : Int) : eqV (.int i) (.int i) = true := beq_self_eq_true i
theorem eqV_ne {i j : Int} (h : i ≠ j) : eqV (.int i) (.int j) = false := beq_false_of_ne h
theorem inV_int (a : Int) : ∀ l : List Int, inV (.int a) (l.map V.int) = l.contains a
  | [] => rfl
  | b :: l => by
    have ih := inV_int a l
    unfold inV at ih ⊢
    rw [List.map_cons, List.any_cons, ih, List.contains_cons]
    congr 1
    show (b == a) = (a == b)
    exact Bool.eq_iff_iff.mpr ⟨fun z => by rw [eq_of_beq z]; exact beq_self_eq_true _, fun z => by rw [eq_of_beq z]; exact beq_self_eq_true _⟩
theorem flat_ints : ∀ l : List Int, (l.map V.int).all flatV = true
  | [] => rfl
  | b :: l => by
    rw [List.map_cons, List.all_cons, flat_ints l]
    rfl
/-- a list's data by its places -/
theorem map_range_nat {α : Type} (n : Nat) (f : Nat → α) (l : List α) (hl : l.length = n) (h : ∀ i, i < n → l[i]? = some (f i)) : (List.range n).map f = l := by
  refine List.ext_getElem? fun i => ?_
  by_cases c : i < n
  · rw [List.getElem?_map, List.getElem?_range c, h i c]
    rfl
  · rw [List.getElem?_eq_none_iff.mpr (by rw [List.length_map, List.length_range]; omega), List.getElem?_eq_none_iff.mpr (by omega)]

end Z
namespace Z
open PySem PySem.Spec PyProof.Rows L2
local macro_rules | `(tactic| walk_at "look") => `(tactic| first | assumption | exact upd_same | exact SqL.of (by assumption) | exact SqT.of (by assumption) | exact SqL.of upd_same | exact SqT.of upd_same)
local macro_rules | `(tactic| walk_at "at") => `(tactic| first | exact at0 | exact at1 | exact at2 | exact at3 | exact ix0 | exact ix1 | assumption | exact atI_nat (by rfl))
local macro_rules | `(tactic| walk_at "sd") => `(tactic| ((try dsimp only); first | assumption | omega | (unfold CMul; omega) | (unfold CDiv; omega) | (unfold CPow; decide) | decide))
local macro_rules | `(tactic| walk_at "st") => `(tactic| first
  | (refine ⟨_, rfl, ?_⟩)
  | (refine ⟨_, _, rfl, rfl, ?_⟩)
  | (refine ⟨rfl, ?_⟩)
  | (refine .inl ⟨_, rfl, ?_⟩)
  | (refine ⟨_, _, _, _, rfl, rfl, (by walk_at "look"), (by walk_at "at"), ?_⟩)
  | (refine ⟨_, _, rfl, .inl (by walk_at "look"), ?_⟩)
  | (refine And.intro (by walk_at "sd") ?_)
  | fail "no step")
local macro_rules | `(tactic| walk_at "go") => `(tactic| repeat' (walk_at "st"))
local macro_rules | `(tactic| walk_at "ans") => `(tactic| (intro Q q; (repeat' (walk_at "st")); exact q))

theorem if_pre {c : TT} {t u : TS} {D : Ends} {σ : L2.St} {H : Hp} (b : Bool) (I : Hp → Prop) (h : ∀ Q : Bool → Hp → Prop, (∀ H', I H' → Q b H') → c σ H Q) (ht : ∀ H', I H' → b = true → t D σ H') (hf : ∀ H', I H' → b = false → u D σ H') : tIfS c t u D σ H := by
  refine h _ fun H' e => ?_
  cases b with
  | true => exact iteT (ht H' e rfl)
  | false => exact iteF (hf H' e rfl)
theorem isBet_lo {n a b : Int} (h : n < a) : isBet (.int n) a b = false := by
  show (decide (a ≤ n) && decide (n ≤ b)) = false
  rw [decide_eq_false (show ¬ a ≤ n by omega), Bool.false_and]
theorem isBet_hi {n a b : Int} (h : b < n) : isBet (.int n) a b = false := by
  show (decide (a ≤ n) && decide (n ≤ b)) = false
  rw [decide_eq_false (show ¬ n ≤ b by omega), Bool.and_false]
/-- one of some values, each of data that passes a test -/
theorem pick_go {K : PySem.W.Frag} {H : Hp} {d p : Addr} {xs : List V} {ds : List PyData} {Q : VK} {E' : XK} (hD : DSt H d) (hp : H p = some (.lst xs)) (np : p ≠ d) (hall : DpAll K H xs ds) (hf : flatDs ds = true) (h0 : xs ≠ []) (h1 : xs.length ≤ 1000)
    (q : ∀ v e H', e ∈ ds → Dp K H' v e → DSt H' d → Fx d H H' → Q v H') : sp_law_pick K ([.ref d, .ref p] ++ []) H Q E' := by
  unfold sp_law_pick
  refine ⟨d, p, xs, rfl, hD, hp, np, h0, h1, fun i v H' hi hD' f => ?_⟩
  obtain ⟨e, he, hv⟩ := dpa_get' (dpa_fxN (dst_noT hD) f hf hall) hi
  exact q v e H' (List.mem_of_getElem? he) hv hD' f
theorem dst_ne {H : Hp} {d x : Addr} (hD : DSt H d) (hx : H x = none) : x ≠ d := by
  obtain ⟨zs, hd⟩ := dst_l hD
  exact (ne_of_none hd hx).symm

end Z
namespace Z
open PySem PySem.Spec PyProof.Rows L2
/-! ### rhymes that go alike -/
def oL (vs : List Ve) (left : Int) (N : Nat) : List Int := (Rh.st (rises vs) N (N - left.toNat)).1
theorem oL_len (vs : List Ve) (left : Int) (N : Nat) : (oL vs left N).length = N - left.toNat := Rh.st_len1 _ _ _
theorem st_take (R : List Int) (N : Nat) {j J : Nat} (h : j ≤ J) (hJ : J ≤ N) : (Rh.st R N J).1.take j = (Rh.st R N j).1 := by
  rw [Rh.st_fst R N J hJ, Rh.st_fst R N j (by omega)]
  unfold Rh.goneL
  rw [← List.map_take, List.take_range, Nat.min_eq_left h]
theorem getD_inj {l : List Int} (nd : l.Nodup) {i j : Nat} (hi : i < l.length) (hj : j < l.length) (e : l.getD i 0 = l.getD j 0) : i = j := by
  rw [List.getD_eq_getElem?_getD, List.getD_eq_getElem?_getD, List.getElem?_eq_getElem hi, List.getElem?_eq_getElem hj] at e
  have e2 : l[i] = l[j] := e
  rcases Nat.lt_trichotomy i j with h | h | h
  · exact absurd e2 (List.pairwise_iff_getElem.mp nd i j hi hj h)
  · exact h
  · exact absurd e2.symm (List.pairwise_iff_getElem.mp nd j i hj hi h)
theorem st_nodup (R : List Int) (N j : Nat) (h : j ≤ N) : (Rh.st R N j).2.Nodup := by
  have : ((Rh.st R N j).1 ++ (Rh.st R N j).2).Nodup := by
    refine (Rh.st_perm R N j h).nodup_iff.mpr ?_
    refine List.Pairwise.map _ (fun a b h z => h ?_) List.nodup_range
    omega
  exact (List.nodup_append.mp this).2.1
theorem alike_rows {R S : List Int} {N J : Nat} (hJ : J ≤ N) (e : (Rh.st R N J).1 = (Rh.st S N J).1) : ∀ j, j ≤ J → (Rh.st R N j).2 = (Rh.st S N j).2 ∧ (j < J → Rh.atR (Rh.rI R j) (N - j) = Rh.atR (Rh.rI S j) (N - j)) := by
  have step : ∀ j, j < J → (Rh.st R N j).2 = (Rh.st S N j).2 → Rh.atR (Rh.rI R j) (N - j) = Rh.atR (Rh.rI S j) (N - j) := fun j hj hrow => by
    have e1 : (Rh.st R N (j + 1)).1 = (Rh.st S N (j + 1)).1 := by
      rw [← st_take R N (show j + 1 ≤ J by omega) hJ, ← st_take S N (show j + 1 ≤ J by omega) hJ, e]
    have hl := Rh.st_len R N j (by omega)
    have hl2 := Rh.st_len S N j (by omega)
    have e2 : (Rh.st R N j).1 ++ [(Rh.st R N j).2.getD (Rh.atR (Rh.rI R j) (Rh.st R N j).2.length) 0] = (Rh.st S N j).1 ++ [(Rh.st S N j).2.getD (Rh.atR (Rh.rI S j) (Rh.st S N j).2.length) 0] := e1
    have e3 := (List.append_inj' e2 rfl).2
    have e4 := List.head_eq_of_cons_eq e3
    rw [← hrow, hl] at e4
    exact getD_inj (st_nodup R N j (by omega)) (by rw [hl]; exact Rh.atR_lt (by omega)) (by rw [hl]; exact Rh.atR_lt (by omega)) e4
  intro j
  induction j with
  | zero => exact fun _ => ⟨rfl, fun h => step 0 h rfl⟩
  | succ j ih =>
    intro hj
    obtain ⟨i1, i2⟩ := ih (by omega)
    have hl := Rh.st_len R N j (by omega)
    have hrow : (Rh.st R N (j + 1)).2 = (Rh.st S N (j + 1)).2 := by
      show Rh.cut (Rh.st R N j).2 (Rh.atR (Rh.rI R j) (Rh.st R N j).2.length) = Rh.cut (Rh.st S N j).2 (Rh.atR (Rh.rI S j) (Rh.st S N j).2.length)
      rw [← i1, hl, i2 (by omega)]
    exact ⟨hrow, fun h => step (j + 1) h hrow⟩
theorem atR_eq {r s : Int} {n : Nat} (hn : 12 ≤ n) (hr : -5 ≤ r ∧ r ≤ 6) (hs : -5 ≤ s ∧ s ≤ 6) (e : Rh.atR r n = Rh.atR s n) : r = s := by
  unfold Rh.atR at e
  have h1 := Int.emod_nonneg (r - 1) (show (n : Int) ≠ 0 by omega)
  have h2 := Int.emod_nonneg (s - 1) (show (n : Int) ≠ 0 by omega)
  have e2 : (r - 1) % (n : Int) = (s - 1) % (n : Int) := by omega
  have h3 : (r - 1 - (s - 1)) % (n : Int) = 0 := by
    rw [Int.sub_emod, e2]
    simp
  have h4 : (n : Int) ∣ r - 1 - (s - 1) := Int.dvd_of_emod_eq_zero h3
  by_cases h : r = s
  · exact h
  · exfalso
    rcases Int.lt_or_gt_of_ne h with h | h
    · have h5 := Int.dvd_neg.mpr h4
      have := Int.le_of_dvd (by omega) h5
      omega
    · have := Int.le_of_dvd (by omega) h4
      omega
theorem rI_12 {vs : List Ve} {left : Int} (ok : RhOk vs left) (i : Int) : Rh.rI (rises vs) i = Rh.rI (rises vs) (i % 12) := by
  unfold Rh.rI
  have l1 := ok.l1
  have l4 := ok.l4
  have hd : ((rises vs).length : Int) ∣ 12 := by
    rw [rises_len]
    have : vs.length = 1 ∨ vs.length = 2 ∨ vs.length = 3 ∨ vs.length = 4 := by omega
    rcases this with h | h | h | h <;> rw [h] <;> decide
  rw [Int.emod_emod_of_dvd _ hd]
/-- alike at one number, twenty-nine above those who are left: alike in every rise -/
theorem alike_all {vs us : List Ve} {left : Int} (ok : RhOk vs left) (ok2 : RhOk us left) (e : oL vs left (left.toNat + 29) = oL us left (left.toNat + 29)) : ∀ i : Int, Rh.rI (rises vs) i = Rh.rI (rises us) i := by
  have lf := ok.lf
  have few : ∀ j : Nat, j < 12 → Rh.rI (rises vs) (j : Int) = Rh.rI (rises us) (j : Int) := fun j hj => by
    unfold oL at e
    have ej : left.toNat + 29 - left.toNat = 29 := by omega
    rw [ej] at e
    have := (alike_rows (J := 29) (by omega) e j (by omega)).2 (by omega)
    exact atR_eq (by omega) (rise_bd ok j) (rise_bd ok2 j) this
  intro i
  rw [rI_12 ok, rI_12 ok2]
  have h0 := Int.emod_nonneg i (show (12 : Int) ≠ 0 by decide)
  have h1 := Int.emod_lt_of_pos i (show (0 : Int) < 12 by decide)
  have := few (i % 12).toNat (by omega)
  rw [Int.toNat_of_nonneg h0] at this
  exact this
theorem lift_alike {R S : List Int} (h : ∀ i, Rh.rI R i = Rh.rI S i) (n : Int) : ∀ (k : Nat) (s p : Int), Rh.lift R n k s p = Rh.lift S n k s p
  | 0, _, _ => rfl
  | k + 1, s, p => by
    rw [Rh.lift_succ, Rh.lift_succ, h, lift_alike h n k]
theorem gone_alike {R S : List Int} (h : ∀ i, Rh.rI R i = Rh.rI S i) (n t : Int) : Rh.goneF R n t = Rh.goneF S n t := by
  unfold Rh.goneF
  rw [h, lift_alike h]
theorem st_alike {R S : List Int} (h : ∀ i, Rh.rI R i = Rh.rI S i) (N : Nat) : ∀ j, Rh.st R N j = Rh.st S N j
  | 0 => rfl
  | j + 1 => by
    show ((Rh.st R N j).1 ++ [(Rh.st R N j).2.getD (Rh.atR (Rh.rI R j) (Rh.st R N j).2.length) 0], Rh.cut (Rh.st R N j).2 (Rh.atR (Rh.rI R j) (Rh.st R N j).2.length)) = _
    rw [st_alike h N j, h]
    rfl
/-- the begin -/
def pB (l m : Int) : Nat := (max l m).toNat
/-- what parting tells -/
def PartOk (vs : List Ve) (l : Int) (us : List Ve) (m : Int) : Option Int → Prop
  | none => ∀ i : Nat, i < 30 → oL vs l (pB l m + i) = oL us m (pB l m + i)
  | some n => ∃ i : Nat, i < 30 ∧ n = ((pB l m + i : Nat) : Int) ∧ (∀ j : Nat, j < i → oL vs l (pB l m + j) = oL us m (pB l m + j)) ∧ oL vs l (pB l m + i) ≠ oL us m (pB l m + i)
theorem part_left {vs us : List Ve} {l m : Int} (ok : RhOk vs l) (ok2 : RhOk us m) (h : PartOk vs l us m none) : l = m := by
  have h0 := congrArg List.length (h 0 (by omega))
  rw [oL_len, oL_len] at h0
  have h1 := ok.lf
  have h2 := ok2.lf
  unfold pB at h0
  rw [Int.max_def] at h0
  split at h0 <;> omega
theorem part_all {vs us : List Ve} {l m : Int} (ok : RhOk vs l) (ok2 : RhOk us m) (h : PartOk vs l us m none) : ∀ i : Int, Rh.rI (rises vs) i = Rh.rI (rises us) i := by
  have hl := part_left ok ok2 h
  subst hl
  refine alike_all ok ok2 ?_
  have := h 29 (by omega)
  unfold pB at this
  rw [Int.max_self] at this
  exact this
theorem part_every {vs us : List Ve} {l m : Int} (ok : RhOk vs l) (ok2 : RhOk us m) (h : PartOk vs l us m none) (N : Nat) : oL vs l N = oL us m N := by
  have hl := part_left ok ok2 h
  subst hl
  unfold oL
  rw [st_alike (part_all ok ok2 h)]
theorem part_uniq {vs us : List Ve} {l m : Int} : ∀ {r s : Option Int}, PartOk vs l us m r → PartOk vs l us m s → r = s
  | none, none, _, _ => rfl
  | none, some n, h, ⟨i, hi, _, _, ne⟩ => absurd (h i hi) ne
  | some n, none, ⟨i, hi, _, _, ne⟩, h => absurd (h i hi) ne
  | some n, some k, ⟨i, hi, e1, f1, n1⟩, ⟨j, hj, e2, f2, n2⟩ => by
    have : i = j := by
      rcases Nat.lt_trichotomy i j with h | h | h
      · exact absurd (f2 i h) n1
      · exact h
      · exact absurd (f1 j h) n2
    subst this
    rw [e1, e2]
theorem part_symm {vs us : List Ve} {l m : Int} : ∀ {r : Option Int}, PartOk vs l us m r → PartOk us m vs l r := by
  have hb : pB m l = pB l m := by
    unfold pB
    rw [Int.max_comm]
  intro r h
  cases r with
  | none =>
    intro i hi
    rw [hb]
    exact (h i hi).symm
  | some n =>
    obtain ⟨i, hi, e1, f1, n1⟩ := h
    refine ⟨i, hi, by rw [hb]; exact e1, fun j hj => ?_, ?_⟩
    · rw [hb]
      exact (f1 j hj).symm
    · rw [hb]
      exact fun z => n1 z.symm
end Z
/-! A tuple times an int from 1 on. -/
namespace Z
open PySem PySem.Spec PyProof.Rows L2
theorem tup_once (l : Addr) (vals : Array Value) (m : Nat) (od : Option Addr) (so : Array (Option Value)) (tk : Tok) :
    Meets (Builtin.«tuple.__mul__» ⟨[.ref l, .int 1 tk], []⟩) (fun _ R s => s.heap.get? l = some { cls := .type "tuple", dict := od, data := .seq vals m, slots := so } ∧ R (.ok (.ret (Value.ref l))) s) :=
  .of_wp fun prog w A R s hh => by
    obtain ⟨hp, gg, dd, tt, os⟩ := s
    obtain ⟨hl, hR⟩ := hh
    have fi := AutoSeq1.idx_int
    have c1 : (vals.isEmpty || (1 : Int) == 1) = true := by rw [Bool.or_eq_true]; exact .inr rfl
    wp_walk using wpAny_loadPart' hl
    repeat (first
      | (refine wpAny_ite_true (by exact c1) ?_; wp_walk using wpAny_loadPart' hl)
      | (refine wpAny_ite_false (by decide) ?_; wp_walk using wpAny_loadPart' hl))
    all_goals exact ⟨_, rfl, hR⟩
def rRepA (K : PySem.W.Frag) : R2 := fun x y H Q => ∃ l k xs, x = .ref l ∧ y = .int k ∧ SqT K H l xs ∧ xs ≠ [] ∧ 1 ≤ k ∧ k ≤ 1000 ∧ xs.length ≤ 1000 ∧ (k = 1 → Q (.ref l) H) ∧ (2 ≤ k → ∀ p, H p = none → Q (.ref p) (upd H p (.tup (List.replicate k.toNat xs).flatten)))
theorem op_repA {X : Cx} : OpR X (binaryOp .Mult) (rRepA X.K) := by
  intro pins s σ H x y v u Q I rx ry hh
  obtain ⟨l, k, xs, ex, ey, hT, hne, h1, h2, hz, q1, q2⟩ := hh
  by_cases c : k = 1
  · subst ex ey c
    cases rx
    obtain ⟨tk, rfl⟩ := ry
    obtain ⟨its, rv, ⟨⟨cls, od, dat, so⟩, ho, hc, m, hd⟩, hs⟩ := I.tuple hT
    simp only at hc hd
    subst hc hd
    refine wpAny_binaryOp_repeat_ref (T := "tuple") (U := "int") (by decide) ⟨_, ho, rfl⟩ (fun s' => typeIs_int s' 1 tk) noFill_tuple_mul F.fills_int_mul F.slot_int_rmul repeat_tuple F.slot_int_index.lookup
      (call_meets F.slot_int_rmul (typeIs_int s 1 tk) F.entry_int_rmul (F.args_int_rmul_2 _ _) (int_rmul_tuple 1 tk l its.toArray m od so) ?_)
    refine ⟨ho, rfl, ⟨_, ho, rfl⟩, call_meets F.slot_tuple_mul ⟨_, ho, rfl⟩ F.entry_tuple_mul (F.args_tuple_mul_2 _ _) (tup_once l its.toArray m od so tk) ⟨ho, ?_⟩⟩
    exact ⟨.ref l, H, I, rfl, q1 rfl⟩
  · exact op_repT pins s σ H x y v u Q I rx ry ⟨l, k, xs, ex, ey, hT, hne, by omega, h2, hz, q2 (by omega)⟩
end Z
namespace Z
open PySem PySem.Spec PyProof.Rows L2
local macro_rules | `(tactic| walk_at "look") => `(tactic| first | assumption | exact upd_same | exact SqL.of (by assumption) | exact SqT.of (by assumption) | exact SqL.of upd_same | exact SqT.of upd_same)
local macro_rules | `(tactic| walk_at "at") => `(tactic| first | exact at0 | exact at1 | exact at2 | exact at3 | exact ix0 | exact ix1 | assumption | exact atI_nat (by rfl))
local macro_rules | `(tactic| walk_at "sd") => `(tactic| ((try dsimp only); first | assumption | omega | (unfold CMul; omega) | (unfold CDiv; omega) | (unfold CPow; decide) | decide))
local macro_rules | `(tactic| walk_at "st") => `(tactic| first
  | (refine ⟨_, rfl, ?_⟩)
  | (refine ⟨_, _, rfl, rfl, ?_⟩)
  | (refine ⟨rfl, ?_⟩)
  | (refine .inl ⟨_, rfl, ?_⟩)
  | (refine ⟨_, _, _, _, rfl, rfl, (by walk_at "look"), (by walk_at "at"), ?_⟩)
  | (refine ⟨_, _, rfl, .inl (by walk_at "look"), ?_⟩)
  | (refine And.intro (by walk_at "sd") ?_)
  | fail "no step")
local macro_rules | `(tactic| walk_at "go") => `(tactic| repeat' (walk_at "st"))
local macro_rules | `(tactic| walk_at "ans") => `(tactic| (intro Q q; (repeat' (walk_at "st")); exact q))

/-! ### parting, alike -/
theorem eqvAll_ints : ∀ a b : List Int, PyData.eqvAll (a.map PyData.int) (b.map PyData.int) = decide (a = b)
  | [], [] => rfl
  | [], _ :: _ => rfl
  | _ :: _, [] => rfl
  | x :: a, y :: b => by
    show ((x == y) && PyData.eqvAll (a.map PyData.int) (b.map PyData.int)) = _
    rw [eqvAll_ints a b]
    by_cases h1 : x = y
    · subst h1
      rw [beq_self_eq_true, Bool.true_and]
      by_cases h2 : a = b
      · rw [decide_eq_true h2, decide_eq_true (by rw [h2])]
      · rw [decide_eq_false h2, decide_eq_false fun z => h2 (List.cons.inj z).2]
    · rw [beq_false_of_ne h1, Bool.false_and, decide_eq_false fun z => h1 (List.cons.inj z).1]
theorem ne_ints {K : PySem.W.Frag} {H : Hp} {p q : Addr} {a b : List Int} {Q : VK} (hp : H p = some (.lst (a.map V.int))) (hq : H q = some (.lst (b.map V.int))) (k : Q (.bl (!decide (a = b))) H) : rNeD K (.ref p) (.ref q) H Q := by
  refine ⟨dInts a, dInts b, dInts_at hp, dInts_at hq, shaped_ints a, shaped_ints b, ?_⟩
  have : PyData.eqv (dInts a) (dInts b) = decide (a = b) := eqvAll_ints a b
  rw [this]
  exact k
@[irreducible] def sp_parting (K : PySem.W.Frag) : Sp := fun ws H Q _ => ∃ (a b : Addr) (vs us : List Ve) (l m : Int), ws = [.ref a, .ref b] ∧ RhAt K H a vs l ∧ RhAt K H b us m ∧ RhOk vs l ∧ RhOk us m ∧
  ∀ (r : Option Int) (H' : Hp), PartOk vs l us m r → Ex H H' → Q (oV r) H'
def t_parting_1a_0a_0 (K : PySem.W.Frag) (E : XK) : TS := (tRet (tVar 3))

@[irreducible] def t_parting_1a_0 (K : PySem.W.Frag) (E : XK) : TS := (tIfS (tTest (tOp (rNeD K) (tOp (rIxT K) (tCall (sp_order_of K) [] E0 (tCons (tVar 0) (tCons (tVar 3) tNil))) (tC (.int 0))) (tOp (rIxT K) (tCall (sp_order_of K) [] E0 (tCons (tVar 1) (tCons (tVar 3) tNil))) (tC (.int 0)))))
    (t_parting_1a_0a_0 K E) tNext)

def t_parting_2 (K : PySem.W.Frag) (E : XK) : TS := (tRet (tC .non))

@[irreducible] def t_parting_1 (K : PySem.W.Frag) (E : XK) : TS := tSeq (tFor (iRng2 (tCons (tVar 2) (tCons (tOp oAdd (tVar 2) (tC (.int 30))) tNil))) (gName 3)
    (t_parting_1a_0 K E)) (t_parting_2 K E)

def t_parting_0 (K : PySem.W.Frag) (E : XK) : TS := tSeq (tAsg (tCB cMax2 (tCons (tFld K (tVar 0) "own_left") (tCons (tFld K (tVar 1) "own_left") tNil))) (gName 2)) (t_parting_1 K E)

theorem pure_parting {K : PySem.W.Frag} (T : RhC K) (ws : List V) (H : Hp) (Q : VK) (E : XK) (h : sp_parting K ws H Q E) : t_parting_0 K E { nx := fun _ H' => Q .non H', rt := Q } (start ["one", "other", "begin", "n"] ws) H := by
  unfold sp_parting at h
  obtain ⟨a, b, vs, us, l, m, rfl, R, S, ok, ok2, k⟩ := h
  have lf := ok.lf
  have lf2 := ok2.lf
  obtain ⟨dx, tv, tr, h1, h2, h3⟩ := id R
  obtain ⟨dy, uv, ur, g1, g2, g3⟩ := id S
  show t_parting_0 K E _ [some (.ref a), some (.ref b), none, none] H
  refine ⟨_, rfl, a, _, dx, _, _, rfl, h1, T.cl, T.nl, rhF_l _ _ _, _, rfl, b, _, dy, _, _, rfl, g1, T.cl, T.nl, rhF_l _ _ _, _, _, rfl, ?_⟩
  have eB : (if m > l then m else l) = ((pB l m : Nat) : Int) := by
    unfold pB
    rw [Int.max_def]
    split <;> split <;> omega
  rw [eB]
  have hB : pB l m ≤ 3 := by
    unfold pB
    rw [Int.max_def]
    split <;> omega
  have hB2 : l ≤ (pB l m : Int) ∧ m ≤ (pB l m : Int) := by
    unfold pB
    rw [Int.max_def]
    split <;> omega
  show t_parting_1 K E { nx := fun _ H' => Q .non H', rt := Q } [some (.ref a), some (.ref b), some (.int (pB l m : Nat)), none] H
  unfold t_parting_1
  refine ⟨_, rfl, _, rfl, _, _, rfl, rfl, _, _, rfl, ⟨by omega, by omega, by omega, by omega⟩, for_range (fun i σ H' => Ex H H' ∧ (∀ j : Nat, j < i → oL vs l (pB l m + j) = oL us m (pB l m + j)) ∧ ∃ u, σ = [some (.ref a), some (.ref b), some (.int (pB l m : Nat)), u]) ⟨ex_refl _, fun j hj => absurd hj (by omega), none, rfl⟩ ?_ ?_⟩
  · rintro i σ H1 hi ⟨e1, heq, u, rfl⟩
    have hi30 : i < 30 := by omega
    have eN : ((pB l m : Nat) : Int) + (i : Int) = ((pB l m + i : Nat) : Int) := by omega
    show t_parting_1a_0 K E _ [some (.ref a), some (.ref b), some (.int (pB l m : Nat)), some (.int (((pB l m : Nat) : Int) + (i : Int)))] H1
    rw [eN]
    unfold t_parting_1a_0
    refine if_goH (!decide (oL vs l (pB l m + i) = oL us m (pB l m + i))) (fun Q z => ?_) (fun H2 e2 c => ?_) (fun H2 e2 c => ?_)
    · refine ⟨_, rfl, _, rfl, ?_⟩
      unfold sp_order_of
      refine ⟨a, vs, l, pB l m + i, rfl, rh_ex e1 R, ok, by omega, by omega, fun p q r H2 _ _ _ e2 hp hq _ => ?_⟩
      refine ⟨p, _, 0, _, rfl, rfl, SqT.of hp, at0, _, rfl, _, rfl, b, us, m, pB l m + i, rfl, rh_ex (ex_trans e1 e2) S, ok2, by omega, by omega, fun p2 q2 r2 H3 _ _ _ e3 hp2 hq2 _ => ?_⟩
      refine ⟨p2, _, 0, _, rfl, rfl, SqT.of hp2, at0, ne_ints (e3 _ _ hq) hq2 ⟨_, rfl, z H3 (ex_trans e2 e3)⟩⟩
    · refine ⟨_, rfl, ?_⟩
      have ne : oL vs l (pB l m + i) ≠ oL us m (pB l m + i) := fun z => by
        rw [decide_eq_true z] at c
        cases c
      exact k (some ((pB l m + i : Nat) : Int)) H2 ⟨i, hi30, rfl, heq, ne⟩ (ex_trans e1 e2)
    · have eq : oL vs l (pB l m + i) = oL us m (pB l m + i) := by
        by_cases z : oL vs l (pB l m + i) = oL us m (pB l m + i)
        · exact z
        · rw [decide_eq_false z] at c
          cases c
      refine ⟨ex_trans e1 e2, fun j hj => ?_, _, rfl⟩
      by_cases h : j = i
      · rw [h]
        exact eq
      · exact heq j (by omega)
  · rintro σ H1 ⟨e1, heq, u, rfl⟩
    exact k none H1 (fun i hi => heq i (by omega)) e1
@[irreducible] def sp_alike (K : PySem.W.Frag) : Sp := fun ws H Q _ => ∃ (a b : Addr) (vs us : List Ve) (l m : Int), ws = [.ref a, .ref b] ∧ RhAt K H a vs l ∧ RhAt K H b us m ∧ RhOk vs l ∧ RhOk us m ∧
  ∀ (r : Option Int) (H' : Hp), PartOk vs l us m r → Ex H H' → Q (.bl r.isNone) H'
def t_alike_0 (K : PySem.W.Frag) (E : XK) : TS := (tRet (tOp oIsN (tCall (sp_parting K) [] E0 (tCons (tVar 0) (tCons (tVar 1) tNil))) (tC .non)))

theorem pure_alike {K : PySem.W.Frag} (ws : List V) (H : Hp) (Q : VK) (E : XK) (h : sp_alike K ws H Q E) : t_alike_0 K E { nx := fun _ H' => Q .non H', rt := Q } (start ["one", "other"] ws) H := by
  unfold sp_alike at h
  obtain ⟨a, b, vs, us, l, m, rfl, R, S, ok, ok2, k⟩ := h
  refine ⟨_, rfl, _, rfl, ?_⟩
  unfold sp_parting
  refine ⟨a, b, vs, us, l, m, rfl, R, S, ok, ok2, fun r H' hr e => ⟨rfl, ?_⟩⟩
  rw [oV_none]
  exact k r H' hr e
/-! ### great numbers -/
@[irreducible] def sp_law_great (K : PySem.W.Frag) : Sp := fun ws H Q _ => ∃ (d : Addr), ws = [.ref d] ∧ DSt H d ∧ ∀ (n : Int) (H' : Hp), 100000 ≤ n → n ≤ GREAT → DSt H' d → Fx d H H' → Q (.int n) H'
def t_law_great_1 (K : PySem.W.Frag) (E : XK) : TS := (tRet (tOp oAdd (tVar 1) (tCall (sp_law_below K) [] E0 (tCons (tVar 0) (tCons (tC (.int 50)) tNil)))))

def t_law_great_0 (K : PySem.W.Frag) (E : XK) : TS := tSeq (tAsg (tCall (sp_law_pick K) [] E0 (tCons (tVar 0) (tCons (tLst (tCons (tOp oPow (tC (.int 10)) (tC (.int 5))) (tCons (tOp oPow (tC (.int 10)) (tC (.int 9))) (tCons (tOp oPow (tC (.int 10)) (tC (.int 18))) (tCons (tOp oPow (tC (.int 10)) (tC (.int 29))) (tCons (tOp oSub (tOp oPow (tC (.int 10)) (tC (.int 30))) (tC (.int 49))) tNil)))))) tNil))) (gName 1)) (t_law_great_1 K E)

theorem pure_law_great {K : PySem.W.Frag} (ws : List V) (H : Hp) (Q : VK) (E : XK) (h : sp_law_great K ws H Q E) : t_law_great_0 K E { nx := fun _ H' => Q .non H', rt := Q } (start ["_law_d", "_law_power"] ws) H := by
  unfold sp_law_great at h
  obtain ⟨d, rfl, hD, k⟩ := h
  refine ⟨_, rfl, 10, 5, rfl, rfl, ⟨by decide, by decide, by decide⟩, 10, 9, rfl, rfl, ⟨by decide, by decide, by decide⟩, 10, 18, rfl, rfl, ⟨by decide, by decide, by decide⟩, 10, 29, rfl, rfl, ⟨by decide, by decide, by decide⟩, 10, 30, rfl, rfl, ⟨by decide, by decide, by decide⟩, _, _, rfl, rfl, (by show 5 ≤ sizeLine; decide), fun p hp => ?_⟩
  have e1 := ex_new (o := .lst [.int ((10 : Int) ^ (5 : Int).toNat), .int ((10 : Int) ^ (9 : Int).toNat), .int ((10 : Int) ^ (18 : Int).toNat), .int ((10 : Int) ^ (29 : Int).toNat), .int ((10 : Int) ^ (30 : Int).toNat - 49)]) hp
  refine pick_go (ds := [.int ((10 : Int) ^ (5 : Int).toNat), .int ((10 : Int) ^ (9 : Int).toNat), .int ((10 : Int) ^ (18 : Int).toNat), .int ((10 : Int) ^ (29 : Int).toNat), .int ((10 : Int) ^ (30 : Int).toNat - 49)]) (dst_ex e1 hD) upd_same (dst_ne hD hp)
    (.cons (.int _) (.cons (.int _) (.cons (.int _) (.cons (.int _) (.cons (.int _) .nil))))) rfl (by simp) (by show 5 ≤ 1000; decide) fun v e H' he hv hD' f => ?_
  have hb : ∃ x : Int, v = .int x ∧ 100000 ≤ x ∧ x ≤ GREAT - 49 := by
    simp only [List.mem_cons, List.not_mem_nil, or_false] at he
    rcases he with rfl | rfl | rfl | rfl | rfl
    all_goals exact ⟨_, dp_int hv, by decide, by decide⟩
  obtain ⟨x, rfl, x1, x2⟩ := hb
  refine ⟨_, rfl, _, rfl, ?_⟩
  unfold sp_law_below
  refine ⟨d, 50, rfl, hD', by decide, by decide, fun r H2 r0 r1 hD2 f2 => ⟨_, _, rfl, rfl, ?_⟩⟩
  exact k (x + r) H2 (by omega) (by omega) hD2 (fx_trans (fx_ex e1) (fx_trans f f2))

end Z
namespace Z
open PySem PySem.Spec PyProof.Rows L2
local macro_rules | `(tactic| walk_at "look") => `(tactic| first | assumption | exact upd_same | exact SqL.of (by assumption) | exact SqT.of (by assumption) | exact SqL.of upd_same | exact SqT.of upd_same)
local macro_rules | `(tactic| walk_at "at") => `(tactic| first | exact at0 | exact at1 | exact at2 | exact at3 | exact ix0 | exact ix1 | assumption | exact atI_nat (by rfl))
local macro_rules | `(tactic| walk_at "sd") => `(tactic| ((try dsimp only); first | assumption | omega | (unfold CMul; omega) | (unfold CDiv; omega) | (unfold CPow; decide) | decide))
local macro_rules | `(tactic| walk_at "st") => `(tactic| first
  | (refine ⟨_, rfl, ?_⟩)
  | (refine ⟨_, _, rfl, rfl, ?_⟩)
  | (refine ⟨rfl, ?_⟩)
  | (refine .inl ⟨_, rfl, ?_⟩)
  | (refine ⟨_, _, _, _, rfl, rfl, (by walk_at "look"), (by walk_at "at"), ?_⟩)
  | (refine ⟨_, _, rfl, .inl (by walk_at "look"), ?_⟩)
  | (refine And.intro (by walk_at "sd") ?_)
  | fail "no step")
local macro_rules | `(tactic| walk_at "go") => `(tactic| repeat' (walk_at "st"))
local macro_rules | `(tactic| walk_at "ans") => `(tactic| (intro Q q; (repeat' (walk_at "st")); exact q))

/-! ### a rhyme near another -/
@[irreducible] def sp_law_near (K : PySem.W.Frag) : Sp := fun ws H Q _ => ∃ (d : Addr) (t : V) (vs : List Ve) (left : Int), ws = [.ref d, t] ∧ DSt H d ∧ Dp K H t (tD vs left) ∧ RhOk vs left ∧
  ∀ (u : V) (us : List Ve) (m : Int) (H' : Hp), RhOk us m → Dp K H' u (tD us m) → DSt H' d → Fx d H H' → Q u H'
def t_law_near_2a_0 (K : PySem.W.Frag) (E : XK) : TS := (tRet (tTup (tCons (tOp (rCatA K) (tVar 2) (tVar 2)) (tCons (tVar 3) tNil))))

def t_law_near_3a_0 (K : PySem.W.Frag) (E : XK) : TS := (tRet (tTup (tCons (tVar 2) (tCons (tOp oAdd (tCall (sp_law_below K) [] E0 (tCons (tVar 0) (tCons (tC (.int 3)) tNil))) (tC (.int 1))) tNil))))

def t_law_near_4a_0 (K : PySem.W.Frag) (E : XK) : TS := (tRet (tTup (tCons (tOp (rRepA K) (tSl (rSlA K) (tVar 2) tNoPart (tPart (tC (.int 1)))) (tCB (cLen K) (tCons (tVar 2) tNil))) (tCons (tVar 3) tNil))))

def t_law_near_8 (K : PySem.W.Frag) (E : XK) : TS := (tRet (tTup (tCons (tOp (rCatA K) (tOp (rCatA K) (tSl (rSlA K) (tVar 2) tNoPart (tPart (tVar 5))) (tTup (tCons (tVar 8) tNil))) (tSl (rSlA K) (tVar 2) (tPart (tOp oAdd (tVar 5) (tC (.int 1)))) tNoPart)) (tCons (tVar 3) tNil))))

def t_law_near_7 (K : PySem.W.Frag) (E : XK) : TS := tSeq (tAsg (tIf (tTest (tOp rEq (tVar 4) (tC (.int 3)))) (tTup (tCons (tVar 6) (tCons (tOp oAdd (tC (.int 1)) (tCall (sp_law_below K) [] E0 (tCons (tVar 0) (tCons (tC (.int 6)) tNil)))) tNil))) (tCall (sp_law_pick K) [] E0 (tCons (tVar 0) (tCons (tLst (tCons (tTup (tCons (tC (.str "on")) (tCons (tVar 7) tNil))) (tCons (tTup (tCons (tC (.str "back")) (tCons (tVar 7) tNil))) tNil))) tNil)))) (gName 8)) (t_law_near_8 K E)

def t_law_near_6 (K : PySem.W.Frag) (E : XK) : TS := tSeq (tAsg (tOp (rIxT K) (tVar 2) (tVar 5)) (gTup K 2 (gCons (gName 6) (gCons (gName 7) gNil)))) (t_law_near_7 K E)

def t_law_near_5 (K : PySem.W.Frag) (E : XK) : TS := tSeq (tAsg (tCall (sp_law_below K) [] E0 (tCons (tVar 0) (tCons (tCB (cLen K) (tCons (tVar 2) tNil)) tNil))) (gName 5)) (t_law_near_6 K E)

@[irreducible] def t_law_near_4 (K : PySem.W.Frag) (E : XK) : TS := tSeq (tIfS (tTest (tOp rEq (tVar 4) (tC (.int 2))))
    (t_law_near_4a_0 K E) tNext) (t_law_near_5 K E)

@[irreducible] def t_law_near_3 (K : PySem.W.Frag) (E : XK) : TS := tSeq (tIfS (tTest (tOp rEq (tVar 4) (tC (.int 1))))
    (t_law_near_3a_0 K E) tNext) (t_law_near_4 K E)

@[irreducible] def t_law_near_2 (K : PySem.W.Frag) (E : XK) : TS := tSeq (tIfS (tAnd (tTest (tOp rEq (tVar 4) (tC (.int 0)))) (tTest (tOp oLt (tCB (cLen K) (tCons (tVar 2) tNil)) (tC (.int 3)))))
    (t_law_near_2a_0 K E) tNext) (t_law_near_3 K E)

def t_law_near_1 (K : PySem.W.Frag) (E : XK) : TS := tSeq (tAsg (tCall (sp_law_below K) [] E0 (tCons (tVar 0) (tCons (tC (.int 5)) tNil))) (gName 4)) (t_law_near_2 K E)

def t_law_near_0 (K : PySem.W.Frag) (E : XK) : TS := tSeq (tAsg (tVar 1) (gTup K 2 (gCons (gName 2) (gCons (gName 3) gNil)))) (t_law_near_1 K E)

theorem dpa_app {K : PySem.W.Frag} {H : Hp} : ∀ {vs ws : List V} {ds es : List PyData}, DpAll K H vs ds → DpAll K H ws es → DpAll K H (vs ++ ws) (ds ++ es)
  | _, _, _, _, .nil, h => h
  | _, _, _, _, .cons g r, h => .cons g (dpa_app r h)
theorem dpa_take {K : PySem.W.Frag} {H : Hp} : ∀ (n : Nat) {vs : List V} {ds : List PyData}, DpAll K H vs ds → DpAll K H (vs.take n) (ds.take n)
  | 0, _, _, _ => by
    rw [List.take_zero, List.take_zero]
    exact .nil
  | n + 1, _, _, .nil => .nil
  | n + 1, _, _, .cons g r => .cons g (dpa_take n r)
theorem dpa_dropN {K : PySem.W.Frag} {H : Hp} : ∀ (n : Nat) {vs : List V} {ds : List PyData}, DpAll K H vs ds → DpAll K H (vs.drop n) (ds.drop n)
  | 0, _, _, h => h
  | n + 1, _, _, .nil => .nil
  | n + 1, _, _, .cons _ r => dpa_dropN n r
theorem dpa_nil' {K : PySem.W.Frag} {H : Hp} {vs : List V} (h : DpAll K H vs []) : vs = [] := by
  cases h
  rfl
/-- two tuples of data, one behind the other -/
theorem catA_go {K : PySem.W.Frag} {H : Hp} {x y : V} {ds es : List PyData} {Q : VK} (hx : Dp K H x (.tuple ds)) (hy : Dp K H y (.tuple es)) (hl : ds.length + es.length ≤ 1000) (q : ∀ v H', Ex H H' → Dp K H' v (.tuple (ds ++ es)) → Q v H') : rCatA K x y H Q := by
  obtain ⟨a, xs, rfl, ha, da⟩ := dp_tup (id hx)
  obtain ⟨b, ys, rfl, hb, db⟩ := dp_tup (id hy)
  have la := dpa_len da
  have lb := dpa_len db
  refine ⟨a, b, xs, ys, rfl, rfl, ha, hb, Nat.le_trans (show xs.length + ys.length ≤ 1000 by omega) (by decide), fun h0 => ?_, fun h0 h1 => ?_, fun h0 h1 p hp => ?_⟩
  · subst h0
    have : ds = [] := by
      cases ds with
      | nil => rfl
      | cons _ _ => cases la
    subst this
    exact q _ H (ex_refl _) hy
  · subst h1
    have : es = [] := by
      cases es with
      | nil => rfl
      | cons _ _ => cases lb
    subst this
    rw [List.append_nil] at q
    exact q _ H (ex_refl _) hx
  · exact q _ _ (ex_new hp) (.tup (SqT.of upd_same) (dpa_ex (ex_new hp) (dpa_app da db)))
/-- a part of a tuple of data -/
theorem slA_to {K : PySem.W.Frag} {H : Hp} {x : V} {ds : List PyData} {Q : VK} {i : Nat} (hi : i ≤ ds.length) (hx : Dp K H x (.tuple ds)) (q : ∀ v H', Ex H H' → Dp K H' v (.tuple (ds.take i)) → Q v H') : rSlA K x none (some (i : Int)) H Q := by
  obtain ⟨a, xs, rfl, ha, da⟩ := dp_tup (id hx)
  have la := dpa_len da
  refine ⟨a, xs, rfl, ha, fun h => ?_, fun _ p hp => ?_⟩
  · rw [HT.sIx_nat] at h
    have e : i = ds.length := by omega
    rw [e, List.take_length] at q
    exact q _ H (ex_refl _) hx
  · rw [cut_to _ _ (by omega)]
    exact q _ _ (ex_new hp) (.tup (SqT.of upd_same) (dpa_ex (ex_new hp) (dpa_take i da)))
theorem slA_from {K : PySem.W.Frag} {H : Hp} {x : V} {ds : List PyData} {Q : VK} {i : Nat} {z : Int} (hz : z = (i : Int)) (hi : i ≤ ds.length) (hx : Dp K H x (.tuple ds)) (q : ∀ v H', Ex H H' → Dp K H' v (.tuple (ds.drop i)) → Q v H') : rSlA K x (some z) none H Q := by
  subst hz
  obtain ⟨a, xs, rfl, ha, da⟩ := dp_tup (id hx)
  have la := dpa_len da
  refine ⟨a, xs, rfl, ha, fun h => ?_, fun _ p hp => ?_⟩
  · rw [HT.sIx_nat] at h
    have e : i = 0 := by omega
    rw [e, List.drop_zero] at q
    exact q _ H (ex_refl _) hx
  · rw [cut_from _ _ (by omega)]
    exact q _ _ (ex_new hp) (.tup (SqT.of upd_same) (dpa_ex (ex_new hp) (dpa_dropN i da)))
theorem dpa_rep {K : PySem.W.Frag} {H : Hp} {vs : List V} {ds : List PyData} (h : DpAll K H vs ds) : ∀ n : Nat, DpAll K H (List.replicate n vs).flatten (List.replicate n ds).flatten
  | 0 => .nil
  | n + 1 => by
    rw [List.replicate_succ, List.replicate_succ, List.flatten_cons, List.flatten_cons]
    exact dpa_app h (dpa_rep h n)
/-- the answer: (verses, left), new -/
theorem near_ret {K : PySem.W.Frag} {H : Hp} {v : V} {us : List Ve} {m : Int} {Q : VK} (hv : Dp K H v (vsD us)) (q : ∀ u H', Ex H H' → Dp K H' u (tD us m) → Q u H') : 2 ≤ sizeLine ∧ ∀ p, H p = none → Q (.ref p) (upd H p (.tup [v, .int m])) :=
  ⟨by decide, fun p hp => q _ _ (ex_new hp) (.tup (SqT.of upd_same) (.cons (dp_ex (ex_new hp) hv) (.cons (.int _) .nil)))⟩
theorem rhOk_set {vs : List Ve} {left : Int} (ok : RhOk vs left) {k : Nat} (hk : k < vs.length) {v : Ve} (hv : 1 ≤ v.2 ∧ v.2 ≤ 6) : RhOk (vs.take k ++ [v] ++ vs.drop (k + 1)) left := by
  have l1 := ok.l1
  have l4 := ok.l4
  refine ⟨?_, ?_, fun w hw => ?_, ok.lf⟩
  · rw [List.length_append, List.length_append]
    show 1 ≤ _ + 1 + _
    omega
  · rw [List.length_append, List.length_append, List.length_take, List.length_drop]
    show min k vs.length + 1 + (vs.length - (k + 1)) ≤ 4
    omega
  · rcases List.mem_append.mp hw with hw | hw
    · rcases List.mem_append.mp hw with hw | hw
      · exact ok.cnt w (List.mem_of_mem_take hw)
      · rw [List.mem_singleton.mp hw]
        exact hv
    · exact ok.cnt w (List.mem_of_mem_drop hw)
theorem pure_law_near {K : PySem.W.Frag} (ws : List V) (H : Hp) (Q : VK) (E : XK) (h : sp_law_near K ws H Q E) : t_law_near_0 K E { nx := fun _ H' => Q .non H', rt := Q } (start ["_law_d", "_law_t", "_law_verses", "_law_left", "_law_pick_here", "_law_k", "_law_way", "_law_count", "_law_verse"] ws) H := by
  unfold sp_law_near at h
  obtain ⟨d, t, vs, left, rfl, hD, hT, ok, k⟩ := h
  obtain ⟨a, v, rfl, hs, hv⟩ := tD_at hT
  have l1 := ok.l1
  have l4 := ok.l4
  have lf := ok.lf
  have hlm : (vs.map vD).length = vs.length := List.length_map ..
  refine ⟨_, rfl, a, _, rfl, hs, rfl, _, _, rfl, _, _, rfl, rfl, ?_⟩
  show t_law_near_1 K E { nx := fun _ H' => Q .non H', rt := Q } [some (.ref d), some (.ref a), some v, some (.int left), none, none, none, none, none] H
  refine ⟨_, rfl, ?_⟩
  unfold sp_law_below
  refine ⟨d, 5, rfl, hD, by decide, by decide, fun x H1 _ _ hD1 f1 => ?_⟩
  have hv1 := dp_fxN (dst_noT hD) f1 (vsD_flat vs) hv
  obtain ⟨b, xs, rfl, hb, hall⟩ := dp_tup (id hv1)
  have hxl : xs.length = vs.length := by
    have := dpa_len hall
    rw [hlm] at this
    exact this
  show t_law_near_2 K E { nx := fun _ H' => Q .non H', rt := Q } [some (.ref d), some (.ref a), some (.ref b), some (.int left), some (.int x), none, none, none, none] H1
  unfold t_law_near_2
  refine if_go (decide (x = 0) && decide ((vs.length : Int) < 3)) (fun Q z => and_go (decide (x = 0)) (decide ((vs.length : Int) < 3)) (fun Q z => ⟨_, rfl, rfl, _, rfl, by rw [d_int]; exact z⟩) (fun _ Q z => ⟨_, rfl, b, xs, rfl, .inr hb, _, _, rfl, rfl, _, rfl, by rw [hxl]; exact z⟩) z) (fun c => ?_) (fun _ => ?_)
  · have c2 := of_decide_eq_true (Bool.and_eq_true_iff.mp c).2
    refine ⟨_, rfl, _, rfl, catA_go hv1 hv1 (by rw [hlm]; omega) fun w H2 e2 hw => ?_⟩
    have hw : Dp K H2 w (vsD (vs ++ vs)) := by
      show Dp K H2 w (.tuple ((vs ++ vs).map vD))
      rw [List.map_append]
      exact hw
    refine ⟨_, rfl, near_ret hw fun u H3 e3 hu => k u (vs ++ vs) left H3 ⟨?_, ?_, fun y hy => ?_, ok.lf⟩ hu (dst_ex (ex_trans e2 e3) hD1) (fx_trans f1 (fx_ex (ex_trans e2 e3)))⟩
    · rw [List.length_append]
      omega
    · rw [List.length_append]
      omega
    · rcases List.mem_append.mp hy with hy | hy <;> exact ok.cnt y hy
  show t_law_near_3 K E { nx := fun _ H' => Q .non H', rt := Q } [some (.ref d), some (.ref a), some (.ref b), some (.int left), some (.int x), none, none, none, none] H1
  unfold t_law_near_3
  refine if_go (decide (x = 1)) (fun Q z => ⟨_, rfl, rfl, _, rfl, by rw [d_int]; exact z⟩) (fun c => ?_) (fun _ => ?_)
  · refine ⟨_, rfl, _, rfl, ?_⟩
    unfold sp_law_below
    refine ⟨d, 3, rfl, hD1, by decide, by decide, fun y H2 y0 y1 hD2 f2 => ⟨_, _, rfl, rfl, ?_⟩⟩
    have hv2 := dp_fxN (dst_noT hD1) f2 (vsD_flat vs) hv1
    exact near_ret hv2 fun u H3 e3 hu => k u vs (y + 1) H3 ⟨l1, l4, ok.cnt, by omega, by omega⟩ hu (dst_ex e3 hD2) (fx_trans f1 (fx_trans f2 (fx_ex e3)))
  show t_law_near_4 K E { nx := fun _ H' => Q .non H', rt := Q } [some (.ref d), some (.ref a), some (.ref b), some (.int left), some (.int x), none, none, none, none] H1
  unfold t_law_near_4
  refine if_go (decide (x = 2)) (fun Q z => ⟨_, rfl, rfl, _, rfl, by rw [d_int]; exact z⟩) (fun c => ?_) (fun _ => ?_)
  · obtain ⟨ve, rest, hvs⟩ : ∃ ve rest, vs = ve :: rest := by
      cases vs with
      | nil => cases l1
      | cons ve rest => exact ⟨ve, rest, rfl⟩
    have hve := ok.cnt ve (by rw [hvs]; exact List.mem_cons_self ..)
    have hfin : ∀ (w : V) (H2 : Hp), Ex H1 H2 → Dp K H2 w (vsD (List.replicate vs.length ve)) → 2 ≤ sizeLine ∧ ∀ p, H2 p = none → Q (.ref p) (upd H2 p (.tup [w, .int left])) := fun w H2 e2 hw =>
      near_ret hw fun u H3 e3 hu => k u (List.replicate vs.length ve) left H3 ⟨by rw [List.length_replicate]; exact l1, by rw [List.length_replicate]; exact l4, fun y hy => by rw [List.eq_of_mem_replicate hy]; exact hve, ok.lf⟩ hu (dst_ex (ex_trans e2 e3) hD1) (fx_trans f1 (fx_ex (ex_trans e2 e3)))
    refine ⟨_, rfl, 1, rfl, slA_to (i := 1) (by rw [hlm]; exact l1) hv1 fun w H2 e2 hw => ?_⟩
    have ht1 : (vs.map vD).take 1 = [vD ve] := by
      rw [hvs]
      rfl
    rw [ht1] at hw
    obtain ⟨c2, ys, rfl, hc2, hys⟩ := dp_tup (id hw)
    have hyl := dpa_len hys
    refine ⟨_, rfl, b, xs, rfl, .inr (sqt_ex e2 hb), c2, _, ys, rfl, rfl, hc2, (by intro z; rw [z] at hyl; cases hyl), by omega, by omega, (by rw [hyl]; show 1 ≤ 1000; decide), fun h1 => ?_, fun h2 p hp => ?_⟩
    · have e1 : vs.length = 1 := by omega
      rw [e1] at hfin
      exact ⟨_, rfl, hfin _ H2 e2 hw⟩
    · have e3 := ex_new (o := .tup (List.replicate (xs.length : Int).toNat ys).flatten) hp
      have hn : (xs.length : Int).toNat = vs.length := by omega
      rw [hn] at e3 ⊢
      refine ⟨_, rfl, hfin _ _ (ex_trans e2 e3) ?_⟩
      have hr : (List.replicate vs.length ve).map vD = (List.replicate vs.length [vD ve]).flatten := by
        generalize vs.length = n
        induction n with
        | zero => rfl
        | succ n ih =>
          rw [List.replicate_succ, List.map_cons, ih, List.replicate_succ, List.flatten_cons]
          rfl
      show Dp K _ _ (.tuple ((List.replicate vs.length ve).map vD))
      rw [hr]
      exact .tup (SqT.of upd_same) (dpa_ex e3 (dpa_rep hys _))
  show t_law_near_5 K E { nx := fun _ H' => Q .non H', rt := Q } [some (.ref d), some (.ref a), some (.ref b), some (.int left), some (.int x), none, none, none, none] H1
  refine ⟨_, rfl, _, rfl, b, xs, rfl, .inr hb, ?_⟩
  unfold sp_law_below
  refine ⟨d, _, rfl, hD1, by omega, by omega, fun y H2 y0 y1 hD2 f2 => ?_⟩
  have hv2 := dp_fxN (dst_noT hD1) f2 (vsD_flat vs) hv1
  have hb2 := sqt_fxN (dst_noT hD1) f2 hb
  have hall2 : DpAll K H2 xs (vs.map vD) := dpa_fxN (dst_noT hD1) f2 (show flatDs (vs.map vD) = true from vsD_flat vs) hall
  obtain ⟨i, rfl⟩ := Int.eq_ofNat_of_zero_le y0
  have hi : i < vs.length := by omega
  have hix : i < xs.length := by omega
  obtain ⟨ve, tt, hve, hxe, ht⟩ := vs_at hall2 (List.getElem?_eq_getElem hix)
  have hvc := ok.cnt ve (List.mem_of_getElem? hve)
  show t_law_near_6 K E { nx := fun _ H' => Q .non H', rt := Q } [some (.ref d), some (.ref a), some (.ref b), some (.int left), some (.int x), some (.int (i : Nat)), none, none, none] H2
  refine ⟨_, rfl, _, rfl, b, xs, _, _, rfl, rfl, hb2, at_of rfl (List.getElem?_eq_getElem hix), ?_⟩
  rw [hxe]
  refine ⟨tt, _, rfl, ht, rfl, _, _, rfl, _, _, rfl, rfl, ?_⟩
  show t_law_near_7 K E { nx := fun _ H' => Q .non H', rt := Q } [some (.ref d), some (.ref a), some (.ref b), some (.int left), some (.int x), some (.int (i : Nat)), some (.str (wayS ve.1)), some (.int ve.2), none] H2
  -- the end
  have fin : ∀ (w : V) (nv : Ve) (H3 : Hp), (1 ≤ nv.2 ∧ nv.2 ≤ 6) → Dp K H3 w (vD nv) → DSt H3 d → Fx d H H3 → Dp K H3 (.ref b) (vsD vs) → t_law_near_8 K E { nx := fun _ H' => Q .non H', rt := Q } [some (.ref d), some (.ref a), some (.ref b), some (.int left), some (.int x), some (.int (i : Nat)), some (.str (wayS ve.1)), some (.int ve.2), some w] H3 := by
    intro w nv H3 hnv hw hD3 f3 hv3
    refine ⟨_, rfl, _, rfl, _, rfl, slA_to (i := i) (by rw [hlm]; omega) hv3 fun x1 H4 e4 hx1 => ?_⟩
    refine ⟨_, rfl, (by show 1 ≤ sizeLine; decide), fun p hp => ?_⟩
    have e5 := ex_new (o := .tup [w]) hp
    have hw5 : Dp K (upd H4 p (.tup [w])) (.ref p) (.tuple [vD nv]) := .tup (SqT.of upd_same) (.cons (dp_ex (ex_trans e4 e5) hw) .nil)
    refine catA_go (dp_ex e5 hx1) hw5 (by rw [List.length_take, hlm]; show min i vs.length + 1 ≤ 1000; omega) fun x2 H6 e6 hx2 => ?_
    refine ⟨_, rfl, _, rfl, _, _, rfl, rfl, _, rfl, ?_⟩
    dsimp only [tNoPart]
    refine slA_from (i := i + 1) (by omega) (by rw [hlm]; omega) (dp_ex (ex_trans e4 (ex_trans e5 e6)) hv3) fun x3 H7 e7 hx3 => ?_
    refine catA_go (dp_ex e7 hx2) hx3 (by rw [List.length_append, List.length_take, List.length_drop, hlm]; show min i vs.length + 1 + _ ≤ 1000; omega) fun x4 H8 e8 hx4 => ?_
    have e48 := ex_trans e4 (ex_trans e5 (ex_trans e6 (ex_trans e7 e8)))
    have hx4 : Dp K H8 x4 (vsD (vs.take i ++ [nv] ++ vs.drop (i + 1))) := by
      show Dp K H8 x4 (.tuple ((vs.take i ++ [nv] ++ vs.drop (i + 1)).map vD))
      rw [List.map_append, List.map_append, List.map_take, List.map_drop]
      exact hx4
    refine ⟨_, rfl, near_ret hx4 fun u H9 e9 hu => k u _ left H9 (rhOk_set ok hi hnv) hu (dst_ex (ex_trans e48 e9) hD3) (fx_trans f3 (fx_ex (ex_trans e48 e9)))⟩
  have f02 : Fx d H H2 := fx_trans f1 f2
  refine ⟨_, rfl, rfl, _, rfl, ?_⟩
  rw [d_int]
  by_cases c3 : x = 3
  · rw [decide_eq_true c3]
    refine iteT ⟨_, rfl, _, rfl, ?_⟩
    unfold sp_law_below
    refine ⟨d, 6, rfl, hD2, by decide, by decide, fun z H3 z0 z1 hD3 f3 => ⟨_, _, rfl, rfl, (by show 2 ≤ sizeLine; decide), fun p hp => ?_⟩⟩
    have e4 := ex_new (o := .tup [.str (wayS ve.1), .int (1 + z)]) hp
    exact fin (.ref p) (ve.1, 1 + z) _ ⟨by show 1 ≤ 1 + z; omega, by show 1 + z ≤ 6; omega⟩ (.tup (SqT.of upd_same) (.cons (.str _) (.cons (.int _) .nil))) (dst_ex e4 hD3) (fx_trans f02 (fx_trans f3 (fx_ex e4))) (dp_ex e4 (dp_fxN (dst_noT hD2) f3 (vsD_flat vs) hv2))
  · rw [decide_eq_false c3]
    refine iteF ⟨_, rfl, _, rfl, (by show 2 ≤ sizeLine; decide), fun p1 hp1 => ?_⟩
    have e4 := ex_new (o := .tup [.str "on", .int ve.2]) hp1
    refine ⟨_, rfl, (by show 2 ≤ sizeLine; decide), fun p2 hp2 => ?_⟩
    have e5 := ex_new (o := .tup [.str "back", .int ve.2]) hp2
    refine ⟨(by show 2 ≤ sizeLine; decide), fun l hl => ?_⟩
    have e6 := ex_new (o := .lst [.ref p1, .ref p2]) hl
    have e46 := ex_trans e4 (ex_trans e5 e6)
    refine pick_go (ds := [vD (true, ve.2), vD (false, ve.2)]) (dst_ex e46 hD2) upd_same (dst_ne (dst_ex (ex_trans e4 e5) hD2) hl)
      (.cons (.tup (SqT.of (e6 _ _ (e5 _ _ upd_same))) (.cons (.str _) (.cons (.int _) .nil))) (.cons (.tup (SqT.of (e6 _ _ upd_same)) (.cons (.str _) (.cons (.int _) .nil))) .nil)) rfl (by simp) (by show 2 ≤ 1000; decide) fun w e H3 he hw hD3 f3 => ?_
    have hnv : ∃ nv : Ve, e = vD nv ∧ 1 ≤ nv.2 ∧ nv.2 ≤ 6 := by
      simp only [List.mem_cons, List.not_mem_nil, or_false] at he
      rcases he with rfl | rfl
      · exact ⟨_, rfl, hvc⟩
      · exact ⟨_, rfl, hvc⟩
    obtain ⟨nv, rfl, hn⟩ := hnv
    exact fin w nv H3 hn hw hD3 (fx_trans f02 (fx_trans (fx_ex e46) f3)) (dp_fxN (dst_noT (dst_ex e46 hD2)) f3 (vsD_flat vs) (dp_ex e46 hv2))

end Z
/-! Children on a great ring: those who went are passed over. Mirrored, turned, doubled rhymes. Plain Lean. -/
namespace Rh
/-- the one with c of its kind ahead of it -/
theorem pick_at {α : Type} (p : α → Bool) : ∀ (L : List α) (c : Nat), c < (L.filter p).length → ∃ (X : Nat) (x : α), L[X]? = some x ∧ p x = true ∧ ((L.take X).filter p).length = c ∧ L.filter p = (L.take X).filter p ++ x :: (L.drop (X + 1)).filter p
  | [], c, h => absurd h (Nat.not_lt_zero _)
  | y :: L, c, h => by
    by_cases hy : p y = true
    · rw [List.filter_cons_of_pos hy] at h
      cases c with
      | zero => exact ⟨0, y, rfl, hy, rfl, by rw [List.filter_cons_of_pos hy]; rfl⟩
      | succ c =>
        obtain ⟨X, x, h1, h2, h3, h4⟩ := pick_at p L c (by rw [List.length_cons] at h; omega)
        refine ⟨X + 1, x, h1, h2, ?_, ?_⟩
        · rw [List.take_succ_cons, List.filter_cons_of_pos hy, List.length_cons, h3]
        · rw [List.take_succ_cons, List.filter_cons_of_pos hy, List.filter_cons_of_pos hy, List.drop_succ_cons, List.cons_append, ← h4]
    · rw [List.filter_cons_of_neg hy] at h
      obtain ⟨X, x, h1, h2, h3, h4⟩ := pick_at p L c h
      refine ⟨X + 1, x, h1, h2, ?_, ?_⟩
      · rw [List.take_succ_cons, List.filter_cons_of_neg hy, h3]
      · rw [List.take_succ_cons, List.filter_cons_of_neg hy, List.filter_cons_of_neg hy, List.drop_succ_cons, ← h4]
/-- the ring of n on from a place -/
def ring (n : Nat) (at' : Int) : List Int := (List.range n).map fun (i : Nat) => (at' + (i : Int)) % (n : Int)
theorem ring_len (n : Nat) (a : Int) : (ring n a).length = n := by unfold ring; rw [List.length_map, List.length_range]
theorem ring_get {n i : Nat} (a : Int) (h : i < n) : (ring n a)[i]? = some ((a + (i : Int)) % (n : Int)) := by
  unfold ring
  rw [List.getElem?_map, List.getElem?_range h] <;> rfl
theorem ring_nodup (n : Nat) (a : Int) : (ring n a).Nodup := by
  unfold ring
  refine List.pairwise_map.mpr ?_
  refine List.Pairwise.imp_of_mem ?_ List.nodup_range
  intro i j hi hj hne e
  have hi := List.mem_range.mp hi
  have hj := List.mem_range.mp hj
  apply hne
  have e2 : ((i : Int) + a) % (n : Int) = ((j : Int) + a) % (n : Int) := by rw [Int.add_comm _ a, Int.add_comm _ a]; exact e
  have := emod_inj (a := (i : Int)) (b := (j : Int)) (by omega) (by omega) (by omega) (by omega) e2
  omega
/-- the ring from further on -/
theorem ring_on (n : Nat) (a : Int) (k : Nat) (h : k ≤ n) : ring n (a + (k : Int)) = (ring n a).drop k ++ (ring n a).take k := by
  refine List.ext_getElem? fun i => ?_
  by_cases hi : i < n
  · rw [ring_get _ hi]
    by_cases c : i < n - k
    · rw [List.getElem?_append_left (by rw [List.length_drop, ring_len]; exact c), List.getElem?_drop, ring_get a (by omega)]
      have : a + (k : Int) + (i : Int) = a + ((k + i : Nat) : Int) := by omega
      rw [this]
    · rw [List.getElem?_append_right (by rw [List.length_drop, ring_len]; omega), List.length_drop, ring_len, List.getElem?_take, if_pos (by omega), ring_get a (by omega)]
      have : a + (k : Int) + (i : Int) = a + ((i - (n - k) : Nat) : Int) + (n : Int) := by omega
      rw [this, Int.add_emod_right]
  · rw [List.getElem?_eq_none (by rw [ring_len]; omega), List.getElem?_eq_none (by rw [List.length_append, List.length_drop, List.length_take, ring_len]; omega)]
/-- those of a ring who did not go -/
def left' (n : Nat) (a : Int) (f : List Int) : List Int := (ring n a).filter fun x => !f.contains x
/-- c more are passed over, on -/
theorem pass_on {n : Nat} {a : Int} {f : List Int} {c : Nat} (h : c < (left' n a f).length) : ∃ X : Nat, X < n ∧ f.contains ((a + (X : Int)) % (n : Int)) = false ∧
    (((ring n a).take X).filter fun x => !f.contains x).length = c ∧ (left' n a f).getD c 0 = (a + (X : Int)) % (n : Int) ∧
    left' n (a + (X : Int) + 1) (f ++ [(a + (X : Int)) % (n : Int)]) = cut (left' n a f) c := by
  obtain ⟨X, x, h1, h2, h3, h4⟩ := pick_at (fun x => !f.contains x) (ring n a) c h
  have hX : X < n := by
    have := (List.getElem?_eq_some_iff.mp h1).1
    rw [ring_len] at this
    exact this
  have hx : x = (a + (X : Int)) % (n : Int) := by
    rw [ring_get a hX] at h1
    injection h1 with h1
    exact h1.symm
  have hno : f.contains x = false := by simpa using h2
  refine ⟨X, hX, by rw [← hx]; exact hno, h3, ?_, ?_⟩
  · unfold left'
    rw [h4, List.getD_eq_getElem?_getD, List.getElem?_append_right (by omega), h3, Nat.sub_self, ← hx]
    rfl
  · have hsplit : ring n a = (ring n a).take X ++ x :: (ring n a).drop (X + 1) := by
      conv => lhs; rw [← List.take_append_drop X (ring n a)]
      rw [List.drop_eq_getElem_cons (by rw [ring_len]; exact hX)]
      have : (ring n a)[X]'(by rw [ring_len]; exact hX) = x := (List.getElem?_eq_some_iff.mp h1).2
      rw [this]
    have nd := ring_nodup n a
    rw [hsplit] at nd
    obtain ⟨_, nd2, nd3⟩ := List.nodup_append.mp nd
    have n1 : ∀ y ∈ (ring n a).take X, y ≠ x := fun y hy => nd3 y hy x List.mem_cons_self
    have n2 : ∀ y ∈ (ring n a).drop (X + 1), y ≠ x := fun y hy e => (List.nodup_cons.mp nd2).1 (e ▸ hy)
    have e1 : a + (X : Int) + 1 = a + ((X + 1 : Nat) : Int) := by omega
    have ex : x = (a + (X : Int)) % (n : Int) := hx
    rw [e1, ← ex]
    unfold left'
    rw [ring_on n a (X + 1) (by omega), List.filter_append]
    have f1 : ∀ l : List Int, (∀ y ∈ l, y ≠ x) → (l.filter fun y => !(f ++ [x]).contains y) = l.filter fun y => !f.contains y := fun l hl => by
      refine List.filter_congr fun y hy => ?_
      have := hl y hy
      simp [List.contains_eq_mem, this]
    have t1 : (ring n a).take (X + 1) = (ring n a).take X ++ [x] := by
      rw [List.take_add_one, h1]
      rfl
    rw [t1, List.filter_append, f1 _ n1, f1 _ n2]
    have t2 : ([x].filter fun y => !(f ++ [x]).contains y) = [] := by simp
    rw [t2, List.append_nil, h4]
    unfold cut
    rw [← h3]
    congr 1
    · rw [List.drop_append, List.drop_eq_nil_of_le (Nat.le_succ _), List.nil_append, Nat.add_sub_cancel_left]
      rfl
    · rw [List.take_left]
/-! ### counted step by step -/
/-- how many of the first i places were not passed over for being gone -/
def passed (n : Nat) (f : List Int) (g : Nat → Int) : Nat → Nat
  | 0 => 0
  | i + 1 => passed n f g i + (if f.contains (g i % (n : Int)) then 0 else 1)
theorem passed_succ (n : Nat) (f : List Int) (g : Nat → Int) (i : Nat) : passed n f g (i + 1) = passed n f g i + (if f.contains (g i % (n : Int)) then 0 else 1) := rfl
theorem passed_mono (n : Nat) (f : List Int) (g : Nat → Int) : ∀ (j i : Nat), i ≤ j → passed n f g i ≤ passed n f g j
  | 0, i, h => by
    have : i = 0 := by omega
    subst this
    exact Nat.le_refl _
  | j + 1, i, h => by
    by_cases c : i = j + 1
    · subst c
      exact Nat.le_refl _
    · have := passed_mono n f g j i (by omega)
      rw [passed_succ]
      omega
theorem passed_on (n : Nat) (f : List Int) (a : Int) : ∀ i : Nat, i ≤ n → passed n f (fun j => a + (j : Int)) i = (((ring n a).take i).filter fun x => !f.contains x).length
  | 0, _ => by rw [List.take_zero]; rfl
  | i + 1, h => by
    have e : (ring n a).take (i + 1) = (ring n a).take i ++ [(a + (i : Int)) % (n : Int)] := by
      rw [List.take_add_one, ring_get a (by omega)]
      rfl
    rw [passed_succ, passed_on n f a i (by omega), e, List.filter_append, List.length_append]
    congr 1
    show (if f.contains ((a + (i : Int)) % (n : Int)) = true then 0 else 1) = _
    cases hc : f.contains ((a + (i : Int)) % (n : Int)) with
    | true => rw [if_pos rfl, List.filter_cons_of_neg (by rw [hc]; decide)]; rfl
    | false => rw [if_neg (by decide), List.filter_cons_of_pos (by rw [hc]; decide)]; rfl
theorem passed_back (n : Nat) (f : List Int) (a : Int) : ∀ k : Nat, k ≤ n → passed n f (fun j => a - 1 - (j : Int)) k + passed n f (fun j => a + (j : Int)) (n - k) = passed n f (fun j => a + (j : Int)) n
  | 0, _ => by show 0 + _ = _; rw [Nat.zero_add, Nat.sub_zero]
  | k + 1, h => by
    have ih := passed_back n f a k (by omega)
    have e : n - k = (n - (k + 1)) + 1 := by omega
    rw [e, passed_succ] at ih
    have e2 : (a + ((n - (k + 1) : Nat) : Int)) % (n : Int) = (a - 1 - (k : Int)) % (n : Int) := by
      have : a + ((n - (k + 1) : Nat) : Int) = a - 1 - (k : Int) + (n : Int) := by omega
      rw [this, Int.add_emod_right]
    rw [passed_succ]
    show passed n f (fun j => a - 1 - (j : Int)) k + (if f.contains ((a - 1 - (k : Int)) % (n : Int)) then 0 else 1) + _ = _
    simp only [e2] at ih
    omega
/-- one verse on: the steps until it ends -/
theorem turn_on {n : Nat} {a : Int} {f : List Int} {c : Nat} (h : c < (left' n a f).length) : ∃ X : Nat, f.contains ((a + (X : Int)) % (n : Int)) = false ∧ passed n f (fun j => a + (j : Int)) X = c ∧
    (left' n a f).getD c 0 = (a + (X : Int)) % (n : Int) ∧ left' n (a + (X : Int) + 1) (f ++ [(a + (X : Int)) % (n : Int)]) = cut (left' n a f) c := by
  obtain ⟨X, hX, h1, h2, h3, h4⟩ := pass_on h
  exact ⟨X, h1, by rw [passed_on n f a X (by omega)]; exact h2, h3, h4⟩
theorem left_skip {n : Nat} {a : Int} {f : List Int} (hn : 0 < n) (h : f.contains (a % (n : Int)) = true) : left' n (a + 1) f = left' n a f := by
  unfold left'
  have e : a + 1 = a + ((1 : Nat) : Int) := rfl
  rw [e, ring_on n a 1 hn, List.filter_append]
  have h1 : (ring n a).take 1 = [a % (n : Int)] := by
    rw [List.take_add_one, ring_get a hn]
    show [] ++ [(a + 0) % (n : Int)] = _
    rw [Int.add_zero]
    rfl
  have h2 : ring n a = (ring n a).take 1 ++ (ring n a).drop 1 := (List.take_append_drop 1 _).symm
  conv => rhs; rw [h2]
  rw [List.filter_append, h1, List.filter_cons_of_neg (by rw [h]; decide)]
  simp
theorem left_round (n : Nat) (a : Int) (f : List Int) : left' n (a - (n : Int)) f = left' n a f := by
  unfold left' ring
  congr 1
  refine List.map_congr_left fun i _ => ?_
  have : a - (n : Int) + (i : Int) = a + (i : Int) - (n : Int) := by omega
  rw [this, Int.sub_emod_right]
/-- one verse back -/
theorem turn_back {n : Nat} {a : Int} {f : List Int} {c : Nat} (h : c < (left' n a f).length) : ∃ X : Nat, f.contains ((a - 1 - (X : Int)) % (n : Int)) = false ∧ passed n f (fun j => a - 1 - (j : Int)) X = c ∧
    (left' n a f).getD ((left' n a f).length - 1 - c) 0 = (a - 1 - (X : Int)) % (n : Int) ∧ left' n (a - 1 - (X : Int)) (f ++ [(a - 1 - (X : Int)) % (n : Int)]) = cut (left' n a f) ((left' n a f).length - 1 - c) := by
  have hs : (left' n a f).length = passed n f (fun j => a + (j : Int)) n := by
    rw [passed_on n f a n (Nat.le_refl _), List.take_of_length_le (Nat.le_of_eq (ring_len n a))]
    rfl
  obtain ⟨Y, hY, h1, h2, h3, h4⟩ := pass_on (n := n) (a := a) (f := f) (c := (left' n a f).length - 1 - c) (by omega)
  rw [← passed_on n f a Y (by omega)] at h2
  have e : a - 1 - ((n - 1 - Y : Nat) : Int) = a + (Y : Int) - (n : Int) := by omega
  have em : (a - 1 - ((n - 1 - Y : Nat) : Int)) % (n : Int) = (a + (Y : Int)) % (n : Int) := by rw [e, Int.sub_emod_right]
  have hb := passed_back n f a (n - 1 - Y) (by omega)
  have e3 : n - (n - 1 - Y) = Y + 1 := by omega
  rw [e3, passed_succ, h2] at hb
  have h1' : (if f.contains ((fun j : Nat => a + (j : Int)) Y % (n : Int)) = true then 0 else 1) = 1 := by
    show (if f.contains ((a + (Y : Int)) % (n : Int)) = true then 0 else 1) = 1
    rw [h1, if_neg (by decide)]
  rw [h1'] at hb
  refine ⟨n - 1 - Y, by rw [em]; exact h1, by omega, by rw [em]; exact h3, ?_⟩
  rw [em, e, left_round, ← h4]
  refine (left_skip (by omega) ?_).symm
  simp
theorem left_start (n : Nat) : left' n 0 [] = (List.range n).map fun (i : Nat) => (i : Int) := by
  unfold left' ring
  rw [show (List.map (fun (i : Nat) => ((0 : Int) + (i : Int)) % (n : Int)) (List.range n)).filter (fun x => !([] : List Int).contains x) = List.map (fun (i : Nat) => ((0 : Int) + (i : Int)) % (n : Int)) (List.range n) from List.filter_eq_self.mpr (fun _ _ => rfl)]
  refine List.map_congr_left fun i hi => ?_
  have := List.mem_range.mp hi
  rw [Int.zero_add]
  exact Int.emod_eq_of_lt (by omega) (by omega)

/-! ### a rhyme turned -/
/-- the last rise first -/
def rot (R : List Int) : List Int := R.drop (R.length - 1) ++ R.take (R.length - 1)
theorem rot_len (R : List Int) : (rot R).length = R.length := by
  unfold rot
  rw [List.length_append, List.length_drop, List.length_take]
  omega
theorem rI_rot (R : List Int) (h : 0 < R.length) (i : Int) : rI (rot R) i = rI R (i - 1) := by
  unfold rI
  rw [rot_len]
  have h1 := Int.emod_nonneg i (show (R.length : Int) ≠ 0 by omega)
  have h2 := Int.emod_lt_of_pos i (show (0 : Int) < (R.length : Int) by omega)
  by_cases c : i % (R.length : Int) = 0
  · have e : (i - 1) % (R.length : Int) = (R.length : Int) - 1 := by
      rw [Int.sub_emod, c]
      by_cases c1 : R.length = 1
      · rw [c1]; rfl
      · rw [Int.emod_eq_of_lt (a := 1) (by omega) (by omega)]
        have : (0 : Int) - 1 = -1 + (R.length : Int) - (R.length : Int) := by omega
        rw [this, Int.sub_emod_right]
        rw [Int.emod_eq_of_lt (by omega) (by omega)]
        omega
    rw [c, e]
    have e2 : ((R.length : Int) - 1).toNat = R.length - 1 := by omega
    rw [e2]
    unfold rot
    rw [List.getD_eq_getElem?_getD, List.getD_eq_getElem?_getD]
    show ((_ ++ _)[0]?).getD 0 = _
    rw [List.getElem?_append_left (by rw [List.length_drop]; omega), List.getElem?_drop, Nat.add_zero]
  · have e : (i - 1) % (R.length : Int) = i % (R.length : Int) - 1 := by
      have : i - 1 = (i % (R.length : Int) - 1) + (R.length : Int) * (i / (R.length : Int)) := by
        have := Int.emod_add_mul_ediv i (R.length : Int)
        omega
      rw [this, Int.add_mul_emod_self_left]
      exact Int.emod_eq_of_lt (by omega) (by omega)
    rw [e]
    obtain ⟨k, hk⟩ : ∃ k : Nat, i % (R.length : Int) = (k : Int) + 1 := ⟨(i % (R.length : Int) - 1).toNat, by omega⟩
    rw [hk]
    have e1 : ((k : Int) + 1).toNat = k + 1 := by omega
    have e2 : ((k : Int) + 1 - 1).toNat = k := by omega
    rw [e1, e2]
    unfold rot
    rw [List.getD_eq_getElem?_getD, List.getD_eq_getElem?_getD, List.getElem?_append_right (by rw [List.length_drop]; omega), List.length_drop, List.getElem?_take, if_pos (by omega)]
    have : k + 1 - (R.length - (R.length - 1)) = k := by omega
    rw [this]
theorem lift_rot (R : List Int) (h : 0 < R.length) (n : Int) : ∀ (k : Nat) (s p : Int), lift (rot R) (n + 1) k s p = lift R n k s p
  | 0, _, _ => rfl
  | k + 1, s, p => by
    rw [lift_succ, lift_succ, lift_rot R h n k, rI_rot R h]
    have : n + 1 - s - 1 - 1 = n - s - 1 := by omega
    rw [this]
/-- one child more, the rhyme turned: a step by the last rise -/
theorem lift_turned (R : List Int) (h : 0 < R.length) (n s p : Int) (k : Nat) (hk : s + (k : Int) = n) : lift (rot R) (n + 1) (k + 1) s p = (lift R n k s p + rI R (-1)) % (n + 1) := by
  rw [lift_snoc, lift_rot R h, hk, rI_rot R h]
  have : n + 1 - n - 1 - 1 = -1 := by omega
  rw [this]

/-! ### a rhyme the other way round -/
def mirr (R : List Int) : List Int := R.map fun r => 1 - r
theorem mirr_len (R : List Int) : (mirr R).length = R.length := by unfold mirr; rw [List.length_map]
theorem rI_mirr (R : List Int) (h : 0 < R.length) (i : Int) : rI (mirr R) i = 1 - rI R i := by
  unfold rI
  rw [mirr_len]
  have h1 := Int.emod_nonneg i (show (R.length : Int) ≠ 0 by omega)
  have h2 := Int.emod_lt_of_pos i (show (0 : Int) < (R.length : Int) by omega)
  have hl : (i % (R.length : Int)).toNat < R.length := by omega
  unfold mirr
  rw [List.getD_eq_getElem?_getD, List.getD_eq_getElem?_getD, List.getElem?_map, List.getElem?_eq_getElem hl]
  rfl
theorem mirr_step (s p r : Int) (hs : 0 ≤ s) : (s - 1 - p + (1 - r)) % (s + 1) = s - (p + r) % (s + 1) := by
  have h1 := Int.emod_nonneg (p + r) (show s + 1 ≠ 0 by omega)
  have h2 := Int.emod_lt_of_pos (p + r) (show (0 : Int) < s + 1 by omega)
  have h3 := Int.emod_add_mul_ediv (p + r) (s + 1)
  have e : s - 1 - p + (1 - r) = (s - (p + r) % (s + 1)) + (s + 1) * (-((p + r) / (s + 1))) := by
    rw [Int.mul_neg]
    omega
  rw [e, Int.add_mul_emod_self_left]
  exact Int.emod_eq_of_lt (by omega) (by omega)
theorem lift_mirr (R : List Int) (h : 0 < R.length) (n : Int) : ∀ (k : Nat) (s p : Int), 0 ≤ s → lift (mirr R) n k s (s - 1 - p) = s + (k : Int) - 1 - lift R n k s p
  | 0, s, p, _ => by
    rw [lift_zero, lift_zero]
    omega
  | k + 1, s, p, hs => by
    rw [lift_succ, lift_succ, rI_mirr R h, mirr_step s p _ hs]
    have e : s - (p + rI R (n - s - 1)) % (s + 1) = s + 1 - 1 - (p + rI R (n - s - 1)) % (s + 1) := by omega
    rw [e, lift_mirr R h n k (s + 1) _ (by omega)]
    omega

/-! ### a rhyme told twice over -/
theorem rI_twice (R : List Int) (h : 0 < R.length) (i : Int) : rI (R ++ R) i = rI R i := by
  unfold rI
  have hl : (((R ++ R).length : Nat) : Int) = (R.length : Int) * 2 := by
    rw [List.length_append]
    omega
  rw [hl]
  have h1 := Int.emod_nonneg i (show (R.length : Int) * 2 ≠ 0 by omega)
  have h2 := Int.emod_lt_of_pos i (show (0 : Int) < (R.length : Int) * 2 by omega)
  have e : i % (R.length : Int) = (i % ((R.length : Int) * 2)) % (R.length : Int) := (Int.emod_emod_of_dvd i ⟨2, rfl⟩).symm
  rw [e, List.getD_eq_getElem?_getD, List.getD_eq_getElem?_getD]
  by_cases c : i % ((R.length : Int) * 2) < (R.length : Int)
  · rw [Int.emod_eq_of_lt h1 c, List.getElem?_append_left (by omega)]
  · have e2 : i % ((R.length : Int) * 2) % (R.length : Int) = i % ((R.length : Int) * 2) - (R.length : Int) := by
      rw [← Int.sub_emod_right]
      exact Int.emod_eq_of_lt (by omega) (by omega)
    rw [e2, List.getElem?_append_right (by omega)]
    have : (i % ((R.length : Int) * 2)).toNat - R.length = (i % ((R.length : Int) * 2) - (R.length : Int)).toNat := by omega
    rw [this]
theorem lift_twice (R : List Int) (h : 0 < R.length) (n : Int) : ∀ (k : Nat) (s p : Int), lift (R ++ R) n k s p = lift R n k s p
  | 0, _, _ => rfl
  | k + 1, s, p => by rw [lift_succ, lift_succ, rI_twice R h, lift_twice R h n k]
end Rh
namespace Z
open PySem PySem.Spec PyProof.Rows L2
local macro_rules | `(tactic| walk_at "look") => `(tactic| first | assumption | exact upd_same | exact SqL.of (by assumption) | exact SqT.of (by assumption) | exact SqL.of upd_same | exact SqT.of upd_same)
local macro_rules | `(tactic| walk_at "at") => `(tactic| first | exact at0 | exact at1 | exact at2 | exact at3 | exact ix0 | exact ix1 | assumption | exact atI_nat (by rfl))
local macro_rules | `(tactic| walk_at "sd") => `(tactic| ((try dsimp only); first | assumption | omega | (unfold CMul; omega) | (unfold CDiv; omega) | (unfold CPow; decide) | decide))
local macro_rules | `(tactic| walk_at "st") => `(tactic| first
  | (refine ⟨_, rfl, ?_⟩)
  | (refine ⟨_, _, rfl, rfl, ?_⟩)
  | (refine ⟨rfl, ?_⟩)
  | (refine .inl ⟨_, rfl, ?_⟩)
  | (refine ⟨_, _, _, _, rfl, rfl, (by walk_at "look"), (by walk_at "at"), ?_⟩)
  | (refine ⟨_, _, rfl, .inl (by walk_at "look"), ?_⟩)
  | (refine And.intro (by walk_at "sd") ?_)
  | fail "no step")
local macro_rules | `(tactic| walk_at "go") => `(tactic| repeat' (walk_at "st"))
local macro_rules | `(tactic| walk_at "ans") => `(tactic| (intro Q q; (repeat' (walk_at "st")); exact q))

/-! ### a number between two -/
@[irreducible] def sp_law_spot (K : PySem.W.Frag) : Sp := fun ws H Q _ => ∃ (d : Addr) (lo hi : Int), ws = [.ref d, .int lo, .int hi] ∧ DSt H d ∧ lo ≤ hi ∧ hi - lo + 1 < 2 ^ 200 ∧
  ∀ (n : Int) (H' : Hp), lo ≤ n → n ≤ hi → DSt H' d → Fx d H H' → Q (.int n) H'
def t_law_spot_1a_0 (K : PySem.W.Frag) (E : XK) : TS := (tRet (tCB (rMin K) (tCons (tLst (tCons (tVar 2) (tCons (tOp oAdd (tVar 1) (tCall (sp_law_below K) [] E0 (tCons (tVar 0) (tCons (tC (.int 30)) tNil)))) tNil))) tNil)))

def t_law_spot_2a_0 (K : PySem.W.Frag) (E : XK) : TS := (tRet (tCB (rMax K) (tCons (tLst (tCons (tVar 1) (tCons (tOp oSub (tVar 2) (tCall (sp_law_below K) [] E0 (tCons (tVar 0) (tCons (tC (.int 30)) tNil)))) tNil))) tNil)))

def t_law_spot_3 (K : PySem.W.Frag) (E : XK) : TS := (tRet (tOp oAdd (tVar 1) (tCall (sp_law_below K) [] E0 (tCons (tVar 0) (tCons (tOp oAdd (tOp oSub (tVar 2) (tVar 1)) (tC (.int 1))) tNil)))))

@[irreducible] def t_law_spot_2 (K : PySem.W.Frag) (E : XK) : TS := tSeq (tIfS (tTest (tOp rEq (tVar 3) (tC (.int 1))))
    (t_law_spot_2a_0 K E) tNext) (t_law_spot_3 K E)

@[irreducible] def t_law_spot_1 (K : PySem.W.Frag) (E : XK) : TS := tSeq (tIfS (tTest (tOp rEq (tVar 3) (tC (.int 0))))
    (t_law_spot_1a_0 K E) tNext) (t_law_spot_2 K E)

def t_law_spot_0 (K : PySem.W.Frag) (E : XK) : TS := tSeq (tAsg (tCall (sp_law_below K) [] E0 (tCons (tVar 0) (tCons (tC (.int 4)) tNil))) (gName 3)) (t_law_spot_1 K E)

theorem pure_law_spot {K : PySem.W.Frag} (ws : List V) (H : Hp) (Q : VK) (E : XK) (h : sp_law_spot K ws H Q E) : t_law_spot_0 K E { nx := fun _ H' => Q .non H', rt := Q } (start ["_law_d", "_law_least", "_law_most", "_law_pick_here"] ws) H := by
  unfold sp_law_spot at h
  obtain ⟨d, lo, hi, rfl, hD, h1, h2, k⟩ := h
  show t_law_spot_0 K E _ [some (.ref d), some (.int lo), some (.int hi), none] H
  refine ⟨_, rfl, ?_⟩
  unfold sp_law_below
  refine ⟨d, 4, rfl, hD, by decide, by decide, fun r H1 r0 r1 hD1 f1 => ?_⟩
  show t_law_spot_1 K E _ [some (.ref d), some (.int lo), some (.int hi), some (.int r)] H1
  unfold t_law_spot_1
  refine ⟨_, rfl, rfl, _, rfl, ?_⟩
  rw [d_int]
  by_cases c0 : r = 0
  · refine iteT' (decide_eq_true c0) ?_
    refine ⟨_, rfl, _, rfl, _, rfl, ?_⟩
    unfold sp_law_below
    refine ⟨d, 30, rfl, hD1, by decide, by decide, fun r2 H2 s0 s1 hD2 f2 => ⟨_, _, rfl, rfl, (by show 2 ≤ sizeLine; decide), fun p hp => ?_⟩⟩
    refine ⟨p, [hi, lo + r2], rfl, SqL.of upd_same, (by show 0 < 2; decide), fun m hm hle => ?_⟩
    have a1 := hle hi List.mem_cons_self
    have a2 : lo ≤ m := by
      rcases List.mem_cons.mp hm with e | e
      · omega
      · have := List.mem_singleton.mp e
        omega
    exact k m _ a2 a1 (dst_ex (ex_new hp) hD2) (fx_trans f1 (fx_trans f2 (fx_ex (ex_new hp))))
  refine iteF' (decide_eq_false c0) ?_
  show t_law_spot_2 K E _ [some (.ref d), some (.int lo), some (.int hi), some (.int r)] H1
  unfold t_law_spot_2
  refine ⟨_, rfl, rfl, _, rfl, ?_⟩
  rw [d_int]
  by_cases c1 : r = 1
  · refine iteT' (decide_eq_true c1) ?_
    refine ⟨_, rfl, _, rfl, _, rfl, ?_⟩
    unfold sp_law_below
    refine ⟨d, 30, rfl, hD1, by decide, by decide, fun r2 H2 s0 s1 hD2 f2 => ⟨_, _, rfl, rfl, (by show 2 ≤ sizeLine; decide), fun p hp => ?_⟩⟩
    refine ⟨p, [lo, hi - r2], rfl, SqL.of upd_same, (by show 0 < 2; decide), fun m hm hle => ?_⟩
    have a1 := hle lo List.mem_cons_self
    have a2 : m ≤ hi := by
      rcases List.mem_cons.mp hm with e | e
      · omega
      · have := List.mem_singleton.mp e
        omega
    exact k m _ a1 a2 (dst_ex (ex_new hp) hD2) (fx_trans f1 (fx_trans f2 (fx_ex (ex_new hp))))
  refine iteF' (decide_eq_false c1) ?_
  show t_law_spot_3 K E _ [some (.ref d), some (.int lo), some (.int hi), some (.int r)] H1
  refine ⟨_, rfl, _, rfl, _, rfl, _, rfl, _, _, rfl, rfl, _, _, rfl, rfl, ?_⟩
  unfold sp_law_below
  refine ⟨d, hi - lo + 1, rfl, hD1, by omega, h2, fun r2 H2 s0 s1 hD2 f2 => ⟨_, _, rfl, rfl, ?_⟩⟩
  exact k _ _ (by omega) (by omega) hD2 (fx_trans f1 f2)

/-! ### the rises of a drawn rhyme -/
@[irreducible] def sp_law_rises (K : PySem.W.Frag) : Sp := fun ws H Q _ => ∃ (t : V) (vs : List Ve) (left : Int), ws = [t] ∧ Dp K H t (tD vs left) ∧ RhOk vs left ∧
  ∀ (p : Addr) (H' : Hp), H p = none → Ex H H' → H' p = some (.lst ((rises vs).map V.int)) → Q (.ref p) H'
def t_law_rises_0 (K : PySem.W.Frag) (E : XK) : TS := (tRet (tLc (iTup K (tOp (rIxT K) (tVar 0) (tC (.int 0)))) (gTup K 2 (gCons (gName 1) (gCons (gName 2) gNil))) tYes (tIf (tTest (tOp rEq (tVar 1) (tC (.str "on")))) (tVar 2) (tOp oSub (tC (.int 1)) (tVar 2))) [1, 2]))

theorem pure_law_rises {K : PySem.W.Frag} (ws : List V) (H : Hp) (Q : VK) (E : XK) (h : sp_law_rises K ws H Q E) : t_law_rises_0 K E { nx := fun _ H' => Q .non H', rt := Q } (start ["_law_t", "_law_way", "_law_count"] ws) H := by
  unfold sp_law_rises at h
  obtain ⟨t, vs, left, rfl, hT, ok, k⟩ := h
  obtain ⟨a, v, rfl, hs, hv⟩ := tD_at hT
  obtain ⟨b, xs, rfl, hb, hall⟩ := dp_tup (id hv)
  have hl : xs.length = vs.length := by
    have := dpa_len hall
    rw [List.length_map] at this
    exact this
  have l4 := ok.l4
  show t_law_rises_0 K E _ [some (.ref a), none, none] H
  refine ⟨_, rfl, a, _, 0, _, rfl, rfl, hs, at0, b, rfl, ⟨xs, hb⟩, fun L hL => lc_map walk_tup (fun i => .int ((rises vs).getD i 0)) hL (Nat.lt_of_le_of_lt (by omega : _ ≤ 4) (by decide)) (fun H3 e => sqt_ex e hb) ?_ ?_⟩
  · rintro i x H3 H4 hi e ⟨rfl, hx⟩ Q Zf q
    obtain ⟨ve, t, hve, rfl, ht⟩ := vs_at hall hx
    refine ⟨t, _, rfl, sqt_ex e ht, rfl, _, _, rfl, _, _, rfl, rfl, rfl, ?_⟩
    refine iteT (B := Zf H4) ?_
    have er : (rises vs).getD i 0 = riseOf ve := by
      unfold rises
      rw [List.getD_eq_getElem?_getD, List.getElem?_map, hve]
      rfl
    rw [er] at q
    refine ⟨_, rfl, rfl, _, rfl, ?_⟩
    rw [d_str]
    have q2 := q H4 (ex_refl H4)
    unfold riseOf at q2
    cases hb : ve.1 with
    | true =>
      rw [hb, if_pos rfl] at q2
      exact iteT ⟨_, rfl, q2⟩
    | false =>
      rw [hb, if_neg Bool.false_ne_true] at q2
      exact iteF ⟨_, rfl, 1, _, rfl, rfl, q2⟩
  · intro H3 e3 hL3
    have e4 : (List.range xs.length).map (fun i => V.int ((rises vs).getD i 0)) = (rises vs).map V.int := by
      refine map_range_get (rises vs) V.int 0 ?_
      unfold rises
      rw [List.length_map]
      exact hl
    rw [e4] at hL3
    exact k L H3 hL e3 hL3

/-! ### the last one first -/
/-- the last verse first -/
def rotV (vs : List Ve) : List Ve := vs.drop (vs.length - 1) ++ vs.take (vs.length - 1)
theorem rotV_ok {vs : List Ve} {left : Int} (ok : RhOk vs left) : RhOk (rotV vs) left := by
  have l1 := ok.l1
  have l4 := ok.l4
  have hl : (rotV vs).length = vs.length := by
    unfold rotV
    rw [List.length_append, List.length_drop, List.length_take]
    omega
  refine ⟨by omega, by omega, fun w hw => ?_, ok.lf⟩
  rcases List.mem_append.mp hw with h | h
  · exact ok.cnt w (List.mem_of_mem_drop h)
  · exact ok.cnt w (List.mem_of_mem_take h)
theorem rotV_rises (vs : List Ve) : rises (rotV vs) = Rh.rot (rises vs) := by
  unfold rotV Rh.rot rises
  rw [List.map_append, List.map_drop, List.map_take, List.length_map]
theorem slA_last {K : PySem.W.Frag} {H : Hp} {x : V} {ds : List PyData} {Q : VK} (hl : 1 ≤ ds.length) (hx : Dp K H x (.tuple ds)) (q : ∀ v H', Ex H H' → Dp K H' v (.tuple (ds.drop (ds.length - 1))) → Q v H') : rSlA K x (some (-1)) none H Q := by
  obtain ⟨a, xs, rfl, ha, da⟩ := dp_tup (id hx)
  have la := dpa_len da
  refine ⟨a, xs, rfl, ha, fun h => ?_, fun _ p hp => ?_⟩
  · have h1 := h.1
    have e1 : HT.sIx xs.length 0 (some (-1)) = (-1 + (xs.length : Int)).toNat := rfl
    rw [e1] at h1
    have e : ds.length - 1 = 0 := by omega
    rw [e, List.drop_zero] at q
    exact q _ H (ex_refl _) hx
  · rw [(cut_neg1 xs (by omega)).1, la]
    exact q _ _ (ex_new hp) (.tup (SqT.of upd_same) (dpa_ex (ex_new hp) (dpa_dropN _ da)))
theorem slA_most {K : PySem.W.Frag} {H : Hp} {x : V} {ds : List PyData} {Q : VK} (hl : 1 ≤ ds.length) (hx : Dp K H x (.tuple ds)) (q : ∀ v H', Ex H H' → Dp K H' v (.tuple (ds.take (ds.length - 1))) → Q v H') : rSlA K x none (some (-1)) H Q := by
  obtain ⟨a, xs, rfl, ha, da⟩ := dp_tup (id hx)
  have la := dpa_len da
  refine ⟨a, xs, rfl, ha, fun h => ?_, fun _ p hp => ?_⟩
  · have h1 := h.2
    have e1 : HT.sIx xs.length xs.length (some (-1)) = (-1 + (xs.length : Int)).toNat := rfl
    rw [e1] at h1
    omega
  · rw [(cut_neg1 xs (by omega)).2, la]
    exact q _ _ (ex_new hp) (.tup (SqT.of upd_same) (dpa_ex (ex_new hp) (dpa_take _ da)))
@[irreducible] def sp_Rhyme_turned (K : PySem.W.Frag) : Sp := fun ws H Q _ => ∃ (a : Addr) (vs : List Ve) (left : Int), ws = [.ref a] ∧ RhAt K H a vs left ∧ RhOk vs left ∧
  ∀ (p : Addr) (H' : Hp), H p = none → Ex H H' → RhAt K H' p (rotV vs) left → Q (.ref p) H'
def t_Rhyme_turned_0 (K : PySem.W.Frag) (E : XK) : TS := (tRet (tMake (He.ga K "Rhyme") (sp_Rhymeu_initu K) [] E0 (tCons (tOp (rCatA K) (tSl (rSlA K) (tFld K (tVar 0) "own_verses") (tPart (tUn oNeg (tC (.int 1)))) tNoPart) (tSl (rSlA K) (tFld K (tVar 0) "own_verses") tNoPart (tPart (tUn oNeg (tC (.int 1)))))) (tCons (tFld K (tVar 0) "own_left") tNil))))

theorem pure_Rhyme_turned {K : PySem.W.Frag} (T : RhC K) (ws : List V) (H : Hp) (Q : VK) (E : XK) (h : sp_Rhyme_turned K ws H Q E) : t_Rhyme_turned_0 K E { nx := fun _ H' => Q .non H', rt := Q } (start ["self"] ws) H := by
  unfold sp_Rhyme_turned at h
  obtain ⟨a, vs, left, rfl, R, ok, k⟩ := h
  obtain ⟨dx, tv, tr, h1, h2, h3⟩ := id R
  have l1 := ok.l1
  have l4 := ok.l4
  show t_Rhyme_turned_0 K E _ [some (.ref a)] H
  refine ⟨_, rfl, a, _, dx, _, _, rfl, h1, T.cl, T.nv, rhF_v _ _ _, 1, rfl, _, rfl, ?_⟩
  dsimp only [tNoPart]
  refine slA_last (by rw [List.length_map]; exact l1) h2 fun y H1 e1 hy => ?_
  rw [List.length_map] at hy
  refine ⟨_, rfl, a, _, dx, _, _, rfl, e1 _ _ h1, T.cl, T.nv, rhF_v _ _ _, ?_⟩
  dsimp only [tNoPart]
  refine ⟨1, rfl, _, rfl, ?_⟩
  refine slA_most (by rw [List.length_map]; exact l1) (dp_ex e1 h2) fun z H2 e2 hz => ?_
  rw [List.length_map] at hz
  refine catA_go (dp_ex e2 hy) hz (by rw [List.length_drop, List.length_take, List.length_map]; omega) fun w H3 e3 hw => ?_
  have e13 := ex_trans e1 (ex_trans e2 e3)
  have hw2 : Dp K H3 w (vsD (rotV vs)) := by
    unfold rotV vsD
    rw [List.map_append, List.map_drop, List.map_take]
    exact hw
  refine ⟨_, rfl, a, _, dx, _, _, rfl, e13 _ _ h1, T.cl, T.nl, rhF_l _ _ _, fun p dp np nd ne => ?_⟩
  have e0 : Ex H3 (upd (upd H3 dp (.own p)) p (.ins (He.ga K "Rhyme") dp [])) := fun b o e => by
    rw [upd_ne (ne_of_none e np), upd_ne (ne_of_none e nd)]
    exact e
  unfold sp_Rhymeu_initu
  exact ⟨p, dp, w, rotV vs, left, rfl, upd_same, dp_ex e0 hw2, rotV_ok ok, fun H' r f => ⟨rfl, k p H' (ex_free e13 np) (ex_trans e13 fun b o e => f b o (e0 b o e) (ne_of_none e np)) r⟩⟩

end Z
namespace Z
open PySem PySem.Spec PyProof.Rows L2
local macro_rules | `(tactic| walk_at "look") => `(tactic| first | assumption | exact upd_same | exact SqL.of (by assumption) | exact SqT.of (by assumption) | exact SqL.of upd_same | exact SqT.of upd_same)
local macro_rules | `(tactic| walk_at "at") => `(tactic| first | exact at0 | exact at1 | exact at2 | exact at3 | exact ix0 | exact ix1 | assumption | exact atI_nat (by rfl))
local macro_rules | `(tactic| walk_at "sd") => `(tactic| ((try dsimp only); first | assumption | omega | (unfold CMul; omega) | (unfold CDiv; omega) | (unfold CPow; decide) | decide))
local macro_rules | `(tactic| walk_at "st") => `(tactic| first
  | (refine ⟨_, rfl, ?_⟩)
  | (refine ⟨_, _, rfl, rfl, ?_⟩)
  | (refine ⟨rfl, ?_⟩)
  | (refine .inl ⟨_, rfl, ?_⟩)
  | (refine ⟨_, _, _, _, rfl, rfl, (by walk_at "look"), (by walk_at "at"), ?_⟩)
  | (refine ⟨_, _, rfl, .inl (by walk_at "look"), ?_⟩)
  | (refine And.intro (by walk_at "sd") ?_)
  | fail "no step")
local macro_rules | `(tactic| walk_at "go") => `(tactic| repeat' (walk_at "st"))
local macro_rules | `(tactic| walk_at "ans") => `(tactic| (intro Q q; (repeat' (walk_at "st")); exact q))

/-! ### _law_told, == with anything -/
structure TolX (K : PySem.W.Frag) : Prop where
  vv : PySem.W.exmOne K (.ref (He.ga K "BadVerses")) (.ref (He.ga K "BadVerses")) = some true
  lv : PySem.W.exmOne K (.ref (He.ga K "BadLeft")) (.ref (He.ga K "BadVerses")) = some false
  ll : PySem.W.exmOne K (.ref (He.ga K "BadLeft")) (.ref (He.ga K "BadLeft")) = some true
@[irreducible] def sp_law_toldB (K : PySem.W.Frag) : Sp := fun ws H Q _ => ∃ (v l : V) (r : Rs), ws = [v, l] ∧ ToldR K H v l r ∧ ∀ H', Ex H H' → Q r.v H'
def t_law_toldB_1a_0 (K : PySem.W.Frag) (W : WX) (E : XK) : TS := (tDrop (tMakeSD (He.ga K "Rhyme") (sp_Rhymeu_inituR K) (WE W) (tCons (tVar 0) (tCons (tVar 1) tNil))))

def t_law_toldB_1h1_0 (K : PySem.W.Frag) (a : Addr) (cls : Value) (d : Option Addr) (E : XK) : TS := (tAsg (tC (.str "left")) (gName 2))

def t_law_toldB_1h0_0 (K : PySem.W.Frag) (a : Addr) (cls : Value) (d : Option Addr) (E : XK) : TS := (tAsg (tXf a cls d (He.ga K "BadVerses") "index" (tVar 3)) (gName 2))

def t_law_toldB_2 (K : PySem.W.Frag) (E : XK) : TS := (tRet (tVar 2))

@[irreducible] def t_law_toldB_1 (K : PySem.W.Frag) (E : XK) : TS := tSeq (tTryMix K (fun W => (t_law_toldB_1a_0 K W E)) E [⟨.ref (He.ga K "BadVerses"), some 3, fun a cls d => (t_law_toldB_1h0_0 K a cls d E)⟩, ⟨.ref (He.ga K "BadLeft"), none, fun a cls d => (t_law_toldB_1h1_0 K a cls d E)⟩]) (t_law_toldB_2 K E)

def t_law_toldB_0 (K : PySem.W.Frag) (E : XK) : TS := tSeq (tAsg (tC .non) (gName 2)) (t_law_toldB_1 K E)

theorem pure_law_toldB {K : PySem.W.Frag} (X : TolX K) (ws : List V) (H : Hp) (Q : VK) (E : XK) (h : sp_law_toldB K ws H Q E) : t_law_toldB_0 K E { nx := fun _ H' => Q .non H', rt := Q } (start ["_law_verses", "_law_left", "_law_told_here", "e"] ws) H := by
  unfold sp_law_toldB at h
  obtain ⟨v, l, r, rfl, told, k⟩ := h
  show t_law_toldB_1 K E { nx := fun _ H' => Q .non H', rt := Q } [some v, some l, some .non, none] H
  unfold t_law_toldB_1
  refine ⟨v, rfl, l, rfl, fun x dx nx nd ne => ?_⟩
  have e1 : Ex H (upd (upd H dx (.own x)) x (.ins (He.ga K "Rhyme") dx [])) := fun b o e => by
    rw [upd_ne (ne_of_none e nx), upd_ne (ne_of_none e nd)]
    exact e
  unfold sp_Rhymeu_inituR
  refine ⟨x, dx, v, l, r, rfl, upd_same, told_ex e1 told, ?_⟩
  cases r with
  | bad i =>
    intro d H' hd e
    refine ⟨true, X.vv, fun _ a na => ?_, fun z => nomatch z⟩
    refine ⟨_, rfl, rfl, rfl, d, _, _, rfl, hd, rfl, ?_⟩
    exact ⟨_, rfl, k H' (ex_trans e1 e)⟩
  | left =>
    intro H' e
    refine ⟨false, X.lv, fun z => (nomatch z), fun _ => ⟨true, X.ll, fun _ a na => ?_, fun z => nomatch z⟩⟩
    exact ⟨_, rfl, k H' (ex_trans e1 e)⟩
  | fine vs left =>
    intro H' R f
    refine ⟨rfl, ?_⟩
    exact ⟨_, rfl, k H' fun b o hb => f b o (e1 b o hb) (ne_of_none hb nx)⟩
@[irreducible] def sp_Rhymeu_equB (K : PySem.W.Frag) : Sp := fun ws H Q E => ∃ (a : Addr) (y : V), ws = [.ref a, y] ∧ (sp_Rhymeu_equ K [.ref a, y] H Q E ∨ ∃ T : String, TyX K H y (.type T) ∧ PySem.W.kitOne K (.type T) (.ref (He.ga K "Rhyme")) = some false ∧ Q (.bl false) H)
theorem equ_weak {K : PySem.W.Frag} (ws : List V) (H : Hp) (Q : VK) (E : XK) (h : sp_Rhymeu_equ K ws H Q E) : sp_Rhymeu_equB K ws H Q E := by
  have h2 := h
  unfold sp_Rhymeu_equ at h2
  obtain ⟨a, b, vs, us, l, m, rfl, _⟩ := h2
  unfold sp_Rhymeu_equB
  exact ⟨a, .ref b, rfl, .inl h⟩
def t_Rhymeu_equB_0 (K : PySem.W.Frag) (E : XK) : TS := (tRet (tAndV (tCB (rIsi K) (tCons (tVar 1) (tCons (tC (.ref (He.ga K "Rhyme"))) tNil))) (tAndV (tOp (rEqD K) (tFld K (tVar 0) "own_verses") (tFld K (tVar 1) "own_verses")) (tOp rEq (tFld K (tVar 0) "own_left") (tFld K (tVar 1) "own_left")))))

theorem pure_Rhymeu_equB {K : PySem.W.Frag} (T : RhC K) (TI : C8.InsC K (He.ga K "Rhyme")) (ws : List V) (H : Hp) (Q : VK) (E : XK) (h : sp_Rhymeu_equB K ws H Q E) :
    t_Rhymeu_equB_0 K E { nx := fun _ H' => Q .non H', rt := Q } (start ["self", "other"] ws) H := by
  unfold sp_Rhymeu_equB at h
  obtain ⟨a, y, rfl, h⟩ := h
  rcases h with h | ⟨t, ht, hk, q⟩
  · exact pure_Rhymeu_equ T TI _ H Q E h
  · exact andV_go false true (fun Q q => ⟨y, rfl, y, .ref (He.ga K "Rhyme"), _, _, false, rfl, .own _, ht, hk, q⟩) (fun z => nomatch z) q

end Z
namespace Z
open PySem PySem.Spec PyProof.Rows L2
local macro_rules | `(tactic| walk_at "look") => `(tactic| first | assumption | exact upd_same | exact SqL.of (by assumption) | exact SqT.of (by assumption) | exact SqL.of upd_same | exact SqT.of upd_same)
local macro_rules | `(tactic| walk_at "at") => `(tactic| first | exact at0 | exact at1 | exact at2 | exact at3 | exact ix0 | exact ix1 | assumption | exact atI_nat (by rfl))
local macro_rules | `(tactic| walk_at "sd") => `(tactic| ((try dsimp only); first | assumption | omega | (unfold CMul; omega) | (unfold CDiv; omega) | (unfold CPow; decide) | decide))
local macro_rules | `(tactic| walk_at "st") => `(tactic| first
  | (refine ⟨_, rfl, ?_⟩)
  | (refine ⟨_, _, rfl, rfl, ?_⟩)
  | (refine ⟨rfl, ?_⟩)
  | (refine .inl ⟨_, rfl, ?_⟩)
  | (refine ⟨_, _, _, _, rfl, rfl, (by walk_at "look"), (by walk_at "at"), ?_⟩)
  | (refine ⟨_, _, rfl, .inl (by walk_at "look"), ?_⟩)
  | (refine And.intro (by walk_at "sd") ?_)
  | fail "no step")
local macro_rules | `(tactic| walk_at "go") => `(tactic| repeat' (walk_at "st"))
local macro_rules | `(tactic| walk_at "ans") => `(tactic| (intro Q q; (repeat' (walk_at "st")); exact q))

/-! ### data written down in the text -/
section
variable {d0 : Addr} {K : PySem.W.Frag}
structure LitE (d0 : Addr) (K : PySem.W.Frag) (te : TE) (e : PyData) : Prop where
  run : ∀ (σ : L2.St) (H : Hp) (Q : VK), H d0 ≠ none → (∀ v H', Ex H H' → Dp K H' v e → v ≠ .ref d0 → Q v H') → te σ H Q
structure LitA (d0 : Addr) (K : PySem.W.Frag) (ta : TA) (es : List PyData) : Prop where
  run : ∀ (σ : L2.St) (H : Hp) (Q : List V → Hp → Prop), H d0 ≠ none → (∀ vs H', Ex H H' → DpAll K H' vs es → (∀ v ∈ vs, v ≠ .ref d0) → Q vs H') → ta σ H Q
theorem lit_int (i : Int) : LitE d0 K (tC (.int i)) (.int i) := ⟨fun σ H Q _ q => q _ H (ex_refl H) (.int i) (fun z => nomatch z)⟩
theorem lit_str (i : Str) : LitE d0 K (tC (.str i)) (.str i) := ⟨fun σ H Q _ q => q _ H (ex_refl H) (.str i) (fun z => nomatch z)⟩
theorem lit_bl (i : Bool) : LitE d0 K (tC (.bl i)) (.bool i) := ⟨fun σ H Q _ q => q _ H (ex_refl H) (.bl i) (fun z => nomatch z)⟩
theorem lit_non : LitE d0 K (tC .non) .none := ⟨fun σ H Q _ q => q _ H (ex_refl H) .non (fun z => nomatch z)⟩
theorem lit_neg (i : Int) : LitE d0 K (tUn oNeg (tC (.int i))) (.int (-i)) := ⟨fun σ H Q _ q => ⟨i, rfl, q _ H (ex_refl H) (.int _) (fun z => nomatch z)⟩⟩
theorem lit_nil : LitA d0 K tNil [] := ⟨fun σ H Q _ q => q [] H (ex_refl H) .nil (fun v h => nomatch h)⟩
theorem lit_cons {te : TE} {e : PyData} {ta : TA} {es : List PyData} (he : LitE d0 K te e) (ha : LitA d0 K ta es) : LitA d0 K (tCons te ta) (e :: es) := ⟨fun σ H Q h q => he.run σ H _ h fun v H1 e1 hv nv => ha.run σ H1 _ (fun z => h (ex_free e1 z)) fun vs H2 e2 hvs nvs =>
  q (v :: vs) H2 (ex_trans e1 e2) (.cons (dp_ex e2 hv) hvs) fun w hw => by
    rcases List.mem_cons.mp hw with rfl | hw
    · exact nv
    · exact nvs w hw⟩
theorem new_ne {H H1 : Hp} {p : Addr} (h : H d0 ≠ none) (e1 : Ex H H1) (hp : H1 p = none) : V.ref p ≠ V.ref d0 := fun z => h (ex_free e1 (by rw [← V.ref.inj z]; exact hp))
theorem lit_tup {ta : TA} {es : List PyData} (ha : LitA d0 K ta es) (hl : es.length ≤ 1000) : LitE d0 K (tTup ta) (.tuple es) := ⟨fun σ H Q h q => ha.run σ H _ h fun vs H1 e1 hvs nvs =>
  ⟨by rw [dpa_len hvs]; exact Nat.le_trans hl (by decide), fun p hp => q (.ref p) _ (ex_trans e1 (ex_new hp)) (.tup (SqT.of upd_same) (dpa_ex (ex_new hp) hvs)) (new_ne h e1 hp)⟩⟩
theorem lit_lst {ta : TA} {es : List PyData} (ha : LitA d0 K ta es) (hl : es.length ≤ 1000) : LitE d0 K (tLst ta) (.list es) := ⟨fun σ H Q h q => ha.run σ H _ h fun vs H1 e1 hvs nvs =>
  ⟨by rw [dpa_len hvs]; exact Nat.le_trans hl (by decide), fun p hp => q (.ref p) _ (ex_trans e1 (ex_new hp)) (.lst (SqL.of upd_same) (dpa_ex (ex_new hp) hvs)) (new_ne h e1 hp)⟩⟩
end
theorem lstA_go {d0 : Addr} {K : PySem.W.Frag} {ta : TA} {es : List PyData} {σ : L2.St} {H : Hp} {Q : VK} (A : LitA d0 K ta es) (h : H d0 ≠ none) (hl : es.length ≤ 1000)
    (q : ∀ (xs : List V) (H1 : Hp) (p : Addr), Ex H H1 → DpAll K H1 xs es → (∀ v ∈ xs, v ≠ .ref d0) → H1 p = none → p ≠ d0 → Q (.ref p) (upd H1 p (.lst xs))) : tLst ta σ H Q := by
  refine A.run σ H _ h fun xs H1 e1 hxs nxs => ⟨by rw [dpa_len hxs]; exact Nat.le_trans hl (by decide), fun p hp => q xs H1 p e1 hxs nxs hp fun z => h (ex_free e1 (by rw [← z]; exact hp))⟩
theorem lstA_go1 {d0 : Addr} {K : PySem.W.Frag} {ta : TA} {es : List PyData} {σ : L2.St} {H : Hp} {Q : List V → Hp → Prop} (A : LitA d0 K ta es) (h : H d0 ≠ none) (hl : es.length ≤ 1000)
    (q : ∀ (xs : List V) (H1 : Hp) (p : Addr), Ex H H1 → DpAll K H1 xs es → (∀ v ∈ xs, v ≠ .ref d0) → H1 p = none → p ≠ d0 → Q [.ref p] (upd H1 p (.lst xs))) : tCons (tLst ta) tNil σ H Q := lstA_go A h hl q
/-! ### data that stays while the source is drawn from -/
def okF : PyData → Bool
  | .list ds => flatDs ds
  | e => flatD e
theorem sql_fxN {K : PySem.W.Frag} {H H' : Hp} {a d : Addr} {xs : List V} (nd : a ≠ d) (e : Fx d H H') (h : SqL K H a xs) : SqL K H' a xs := by
  rcases h with (h | ⟨o, h⟩) | h
  · exact .inl (.inl (e _ _ nd h))
  · exact .inl (.inr ⟨o, e _ _ nd h⟩)
  · exact .inr h
theorem dp_fxO {K : PySem.W.Frag} {H H' : Hp} {d : Addr} {v : V} {e : PyData} (hd : NoT (H d)) (f : Fx d H H') (nv : v ≠ .ref d) (ok : okF e = true) (h : Dp K H v e) : Dp K H' v e := by
  cases h with
  | non => exact .non
  | bl b => exact .bl b
  | int i => exact .int i
  | str x => exact .str x
  | lst hs ha => exact .lst (sql_fxN (fun z => nv (by rw [z])) f hs) (dpa_fxN hd f ok ha)
  | tup hs ha => exact .tup (sqt_fxN hd f hs) (dpa_fxN hd f ok ha)
theorem pickO_go {K : PySem.W.Frag} {H : Hp} {d p : Addr} {xs : List V} {es : List PyData} {Q : VK} {E : XK} (hD : DSt H d) (hp : H p = some (.lst xs)) (np : p ≠ d) (hne : xs ≠ []) (hl : xs.length ≤ 1000) (hall : DpAll K H xs es) (nv : ∀ v ∈ xs, v ≠ .ref d) (ok : ∀ e ∈ es, okF e = true)
    (k : ∀ v e H', e ∈ es → Dp K H' v e → v ≠ .ref d → DSt H' d → Fx d H H' → Q v H') : sp_law_pick K [.ref d, .ref p] H Q E := by
  unfold sp_law_pick
  refine ⟨d, p, xs, rfl, hD, hp, np, hne, hl, fun i v H' hv hD' f => ?_⟩
  obtain ⟨e, he, hd⟩ := dpa_get' hall hv
  have me := List.mem_of_getElem? he
  have nvd := nv v (List.mem_of_getElem? hv)
  exact k v e H' me (dp_fxO (dst_noT hD) f nvd (ok e me) hd) nvd hD' f
/-! ### shapes -/
theorem okD_vs {vs : List Ve} (h : vs.length ≤ 4) : okD 2 (vsD vs) := by
  refine ⟨by rw [List.length_map]; omega, fun d hd => ?_⟩
  obtain ⟨v, _, rfl⟩ := List.mem_map.mp hd
  refine ⟨by show 2 ≤ 10000; decide, fun e he => ?_⟩
  rcases List.mem_cons.mp he with rfl | he
  · trivial
  · rw [List.mem_singleton.mp he]
    trivial
theorem eqv_tD (vs us : List Ve) (l m : Int) : PyData.eqv (tD vs l) (tD us m) = (decide (vs = us) && decide (l = m)) := by
  show (PyData.eqv (vsD vs) (vsD us) && ((l == m) && true)) = _
  have ib : (l == m) = decide (l = m) := by
    by_cases h : l = m
    · rw [h, decide_eq_true rfl]
      exact beq_self_eq_true m
    · rw [decide_eq_false h]
      exact beq_false_of_ne h
  rw [eqv_vsD, Bool.and_true, ib]
theorem shaped_tD (vs : List Ve) (l : Int) : SeqAt.shaped (tD vs l) = true := by
  obtain ⟨h1, h2⟩ := lay_vD vs
  have a : PyData.canLayAll0 [vsD vs, .int l] = true := by
    show (PyData.canLayAll0 (vs.map vD) && true) = true
    rw [h1]
    rfl
  have b : PyData.depthAll [vsD vs, .int l] + 1 ≤ 64 := by
    have e : PyData.depthAll [vsD vs, .int l] = max (PyData.depthAll (vs.map vD) + 1) (max 0 0) := rfl
    rw [e]
    omega
  show (PyData.canLayAll0 [vsD vs, .int l] && decide (PyData.depthAll [vsD vs, .int l] + 1 ≤ 64)) = true
  rw [a, decide_eq_true b]
  rfl
theorem ne_boolsB {K : PySem.W.Frag} {H : Hp} {x y : Bool} {Q : VK} (e : x = y) (k : Q (.bl false) H) : rNeD K (.bl x) (.bl y) H Q := by
  subst e
  refine ⟨.bool x, .bool x, .bl _, .bl _, rfl, rfl, ?_⟩
  have : (!PyData.eqv (.bool x) (.bool x)) = false := by cases x <;> decide +kernel
  rw [this]
  exact k
/-! ### slices -/
theorem slA_take {K : PySem.W.Frag} {H : Hp} {x : V} {ds : List PyData} {k : Nat} {Q : VK} (hx : Dp K H x (.tuple ds)) (q : ∀ v H', Ex H H' → Dp K H' v (.tuple (ds.take k)) → Q v H') : rSlA K x none (some (k : Int)) H Q := by
  obtain ⟨a, xs, rfl, ha, da⟩ := dp_tup (id hx)
  have la := dpa_len da
  refine ⟨a, xs, rfl, ha, fun h => ?_, fun _ p hp => ?_⟩
  · have h1 := h.2
    rw [HT.sIx_nat] at h1
    rw [List.take_of_length_le (by omega)] at q
    exact q _ H (ex_refl _) hx
  · have e : cutV xs none (some (k : Int)) = xs.take k := by
      unfold cutV
      rw [HT.sIx_none, HT.sIx_nat, List.drop_zero, Nat.sub_zero]
      by_cases c : k ≤ xs.length
      · rw [Nat.min_eq_left c]
      · rw [Nat.min_eq_right (by omega), List.take_of_length_le (Nat.le_refl _), List.take_of_length_le (by omega)]
    rw [e]
    exact q _ _ (ex_new hp) (.tup (SqT.of upd_same) (dpa_ex (ex_new hp) (dpa_take _ da)))
theorem slA_drop {K : PySem.W.Frag} {H : Hp} {x : V} {ds : List PyData} {k : Nat} {Q : VK} (hk : k ≤ ds.length) (hx : Dp K H x (.tuple ds)) (q : ∀ v H', Ex H H' → Dp K H' v (.tuple (ds.drop k)) → Q v H') : rSlA K x (some (k : Int)) none H Q := by
  obtain ⟨a, xs, rfl, ha, da⟩ := dp_tup (id hx)
  have la := dpa_len da
  refine ⟨a, xs, rfl, ha, fun h => ?_, fun _ p hp => ?_⟩
  · have h1 := h.1
    rw [HT.sIx_nat] at h1
    have e : k = 0 := by omega
    rw [e, List.drop_zero] at q
    exact q _ H (ex_refl _) hx
  · have e : cutV xs (some (k : Int)) none = xs.drop k := by
      unfold cutV
      rw [HT.sIx_none, HT.sIx_nat, Nat.min_eq_left (by omega)]
      exact List.take_of_length_le (by rw [List.length_drop]; exact Nat.le_refl _)
    rw [e]
    exact q _ _ (ex_new hp) (.tup (SqT.of upd_same) (dpa_ex (ex_new hp) (dpa_dropN _ da)))
/-! ### a list with one odd thing within -/
theorem ins_at {w r : List PyData} {x : PyData} {k : Nat} (h : k ≤ w.length) (hv : ∀ d ∈ w, isVerse d = true) : (∀ (j : Nat) (e : PyData), j < k → (w.take k ++ [x] ++ r)[j]? = some e → isVerse e = true) ∧ (w.take k ++ [x] ++ r)[k]? = some x := by
  have hl : (w.take k).length = k := by rw [List.length_take]; omega
  rw [List.append_assoc]
  constructor
  · intro j e hj he
    rw [List.getElem?_append_left (by omega)] at he
    exact hv e (List.mem_of_mem_take (List.mem_of_getElem? he))
  · rw [List.getElem?_append_right (by omega), hl, Nat.sub_self]
    rfl
/-! ### wrong things for verses -/
def WrV (K : PySem.W.Frag) (H : Hp) (d : Addr) (v : V) : Prop := ∀ H', Fx d H H' → ∀ l, ToldR K H' v l (.bad (-1))
section
variable {K : PySem.W.Frag} {H H' : Hp} {d a : Addr} {v : V} {e : PyData} {ds : List PyData} {xs : List V}
theorem wr_ex (e : Ex H H') (h : WrV K H d v) : WrV K H' d v := fun H2 f l => h H2 (fx_trans (fx_ex e) f) l
theorem wr_flat (h : Dp K H v e) (hd : NoT (H d)) (hf : flatD e = true) (hk : kitB (tyN e) "tuple" = some false) : WrV K H d v := fun H' f l => .odd (fun H2 e2 => dp_ty (dp_ex e2 (dp_fxN hd f hf h))) hk
theorem wr_len (h : Dp K H v (.tuple ds)) (hd : NoT (H d)) (hf : flatDs ds = true) (hn : ds.length = 0 ∨ 4 < ds.length) : WrV K H d v := fun H' f l => .len (dp_fxN hd f (by exact hf) h) hn
theorem wr_lst (h : H a = some (.lst xs)) (na : a ≠ d) : WrV K H d (.ref a) := fun H' f l => .odd (t := "list") (fun H2 e2 => .base (.lst (e2 _ _ (f _ _ na h)))) (by decide +kernel)
theorem wr_dict (h : H a = some (.dK [])) (na : a ≠ d) : WrV K H d (.ref a) := fun H' f l => .odd (t := "dict") (fun H2 e2 => .base (.dK (e2 _ _ (f _ _ na h)))) (by decide +kernel)
theorem flat_rep (h : flatDs ds = true) : ∀ n : Nat, flatDs (List.replicate n ds).flatten = true
  | 0 => rfl
  | n + 1 => by
    have ap : ∀ {as bs : List PyData}, flatDs as = true → flatDs bs = true → flatDs (as ++ bs) = true := by
      intro as
      induction as with
      | nil => intro bs _ hb; exact hb
      | cons x as ih =>
        intro bs ha hb
        obtain ⟨h1, h2⟩ := Bool.and_eq_true_iff.mp (show (flatD x && flatDs as) = true from ha)
        show (flatD x && flatDs (as ++ bs)) = true
        rw [h1, ih h2 hb]
        rfl
    show flatDs (ds ++ (List.replicate n ds).flatten) = true
    exact ap h (flat_rep h n)
end

end Z
namespace Z
open PySem PySem.Spec PyProof.Rows L2
local macro_rules | `(tactic| walk_at "look") => `(tactic| first | assumption | exact upd_same | exact SqL.of (by assumption) | exact SqT.of (by assumption) | exact SqL.of upd_same | exact SqT.of upd_same)
local macro_rules | `(tactic| walk_at "at") => `(tactic| first | exact at0 | exact at1 | exact at2 | exact at3 | exact ix0 | exact ix1 | assumption | exact atI_nat (by rfl))
local macro_rules | `(tactic| walk_at "sd") => `(tactic| ((try dsimp only); first | assumption | omega | (unfold CMul; omega) | (unfold CDiv; omega) | (unfold CPow; decide) | decide))
local macro_rules | `(tactic| walk_at "st") => `(tactic| first
  | (refine ⟨_, rfl, ?_⟩)
  | (refine ⟨_, _, rfl, rfl, ?_⟩)
  | (refine ⟨rfl, ?_⟩)
  | (refine .inl ⟨_, rfl, ?_⟩)
  | (refine ⟨_, _, _, _, rfl, rfl, (by walk_at "look"), (by walk_at "at"), ?_⟩)
  | (refine ⟨_, _, rfl, .inl (by walk_at "look"), ?_⟩)
  | (refine And.intro (by walk_at "sd") ?_)
  | fail "no step")
local macro_rules | `(tactic| walk_at "go") => `(tactic| repeat' (walk_at "st"))
local macro_rules | `(tactic| walk_at "ans") => `(tactic| (intro Q q; (repeat' (walk_at "st")); exact q))

@[irreducible] def sp_law (K : PySem.W.Frag) : Sp := fun ws H Q _ => ∃ (a : Addr) (ns : List Int), ws = [.ref a] ∧ SqL K H a (ns.map V.int) ∧ ns.length ≤ 63 ∧ ∀ H', Q (.bl true) H'
def t_law_4a_0 (K : PySem.W.Frag) (E : XK) : TS := (tRet (tC (.bl false)))

def t_law_5a_0 (K : PySem.W.Frag) (E : XK) : TS := (tRet (tC (.bl false)))

def t_law_12a_0 (K : PySem.W.Frag) (E : XK) : TS := (tRet (tC (.bl false)))

def t_law_14 (K : PySem.W.Frag) (E : XK) : TS := (tRet (tAndV (tOp rEq (tCall (sp_law_toldB K) [] E0 (tCons (tVar 9) (tCons (tVar 6) tNil))) (tUn oNeg (tC (.int 1)))) (tOp rEq (tCall (sp_law_toldB K) [] E0 (tCons (tOp (rIxT K) (tVar 2) (tC (.int 0))) (tCons (tVar 6) tNil))) (tC (.str "left")))))

def t_law_13 (K : PySem.W.Frag) (E : XK) : TS := tSeq (tAsg (tCall (sp_law_pick K) [] E0 (tCons (tVar 1) (tCons (tLst (tCons (tTup tNil) (tCons (tC .non) (tCons (tCB (cLst K) (tCons (tOp (rIxT K) (tVar 2) (tC (.int 0))) tNil)) (tCons (tC (.str "on")) (tCons (tOp (rRepT K) (tOp (rIxT K) (tVar 2) (tC (.int 0))) (tC (.int 5))) (tCons tDNewK (tCons (tOp (rRepT K) (tTup (tCons (tTup (tCons (tC (.str "on")) (tCons (tC (.int 1)) tNil))) tNil)) (tC (.int 5))) (tCons (tC (.int 5)) tNil))))))))) tNil))) (gName 9)) (t_law_14 K E)

@[irreducible] def t_law_12 (K : PySem.W.Frag) (E : XK) : TS := tSeq (tIfS (tOr (tTest (tOp rNe (tCall (sp_law_toldB K) [] E0 (tCons (tOp (rCatA K) (tOp (rCatA K) (tSl (rSlA K) (tVar 8) tNoPart (tPart (tVar 7))) (tTup (tCons (tVar 5) tNil))) (tSl (rSlA K) (tVar 8) (tPart (tVar 7)) tNoPart)) (tCons (tVar 6) tNil))) (tVar 7))) (tTest (tOp rNe (tCall (sp_law_toldB K) [] E0 (tCons (tOp (rCatA K) (tSl (rSlA K) (tVar 8) tNoPart (tPart (tVar 7))) (tTup (tCons (tVar 5) tNil))) (tCons (tOp (rIxT K) (tVar 2) (tC (.int 1))) tNil))) (tVar 7))))
    (t_law_12a_0 K E) tNext) (t_law_13 K E)

def t_law_11 (K : PySem.W.Frag) (E : XK) : TS := tSeq (tAsg (tCB (rMin K) (tCons (tLst (tCons (tVar 7) (tCons (tCB (cLen K) (tCons (tVar 8) tNil)) tNil))) tNil)) (gName 7)) (t_law_12 K E)

def t_law_10 (K : PySem.W.Frag) (E : XK) : TS := tSeq (tAsg (tSl (rSlA K) (tOp (rIxT K) (tVar 2) (tC (.int 0))) tNoPart (tPart (tC (.int 3)))) (gName 8)) (t_law_11 K E)

def t_law_9 (K : PySem.W.Frag) (E : XK) : TS := tSeq (tAsg (tCall (sp_law_below K) [] E0 (tCons (tVar 1) (tCons (tOp oAdd (tCB (cLen K) (tCons (tOp (rIxT K) (tVar 2) (tC (.int 0))) tNil)) (tC (.int 1))) tNil))) (gName 7)) (t_law_10 K E)

def t_law_8 (K : PySem.W.Frag) (E : XK) : TS := tSeq (tAsg (tCall (sp_law_pick K) [] E0 (tCons (tVar 1) (tCons (tLst (tCons (tC (.int 0)) (tCons (tC (.int 4)) (tCons (tC (.bl true)) (tCons (tC .non) (tCons (tC (.str "1")) (tCons (tTup (tCons (tC (.int 1)) tNil)) (tCons (tUn oNeg (tC (.int 1))) tNil)))))))) tNil))) (gName 6)) (t_law_9 K E)

def t_law_7 (K : PySem.W.Frag) (E : XK) : TS := tSeq (tAsg (tCall (sp_law_pick K) [] E0 (tCons (tVar 1) (tCons (tOp rCat (tVar 5) (tLst (tCons (tTup (tCons (tC (.str "on")) (tCons (tC (.int 2)) (tCons (tC (.int 0)) tNil)))) (tCons (tTup (tCons (tC .non) (tCons (tC (.int 2)) tNil))) (tCons (tTup tNil) (tCons (tC (.int 2)) (tCons (tTup (tCons (tC (.str "back")) (tCons (tUn oNeg (tC (.int 1))) tNil))) (tCons (tTup (tCons (tC (.str "back")) (tCons (tC .non) tNil))) tNil)))))))) tNil))) (gName 5)) (t_law_8 K E)

def t_law_6 (K : PySem.W.Frag) (E : XK) : TS := tSeq (tAsg (tLst (tCons (tC .non) (tCons (tTup (tCons (tC (.str "on")) tNil)) (tCons (tTup (tCons (tC (.str "on")) (tCons (tC (.int 0)) tNil))) (tCons (tTup (tCons (tC (.str "on")) (tCons (tC (.int 7)) tNil))) (tCons (tTup (tCons (tC (.str "on")) (tCons (tC (.bl true)) tNil))) (tCons (tTup (tCons (tC (.str "off")) (tCons (tC (.int 2)) tNil))) (tCons (tLst (tCons (tC (.str "on")) (tCons (tC (.int 2)) tNil))) (tCons (tC (.str "on")) (tCons (tTup (tCons (tC (.int 2)) (tCons (tC (.str "on")) tNil))) (tCons (tTup (tCons (tC (.str "on")) (tCons (tC (.str "2")) tNil))) tNil))))))))))) (gName 5)) (t_law_7 K E)

@[irreducible] def t_law_5 (K : PySem.W.Frag) (E : XK) : TS := tSeq (tIfS (tOr (tTest (tOp (rNeD K) (tOp (rEqI (He.ga K "Rhyme") (sp_Rhymeu_equ K) E0) (tVar 4) (tCall (sp_law_made K) [] E0 (tCons (tVar 3) tNil))) (tOp (rEqD K) (tVar 2) (tVar 3)))) (tNot (tTest (tOp (rEqI (He.ga K "Rhyme") (sp_Rhymeu_equ K) E0) (tMeth (He.ga K "Rhyme") "turned" (sp_Rhyme_turned K) [] E0 (tVar 4) tNil) (tMake (He.ga K "Rhyme") (sp_Rhymeu_initu K) [] E0 (tCons (tOp (rCatA K) (tSl (rSlA K) (tOp (rIxT K) (tVar 2) (tC (.int 0))) (tPart (tUn oNeg (tC (.int 1)))) tNoPart) (tSl (rSlA K) (tOp (rIxT K) (tVar 2) (tC (.int 0))) tNoPart (tPart (tUn oNeg (tC (.int 1)))))) (tCons (tOp (rIxT K) (tVar 2) (tC (.int 1))) tNil)))))))
    (t_law_5a_0 K E) tNext) (t_law_6 K E)

@[irreducible] def t_law_4 (K : PySem.W.Frag) (E : XK) : TS := tSeq (tIfS (tOr (tNot (tB (tCall (sp_law_equal 4 K) [] E0 (tCons (tLst (tCons (tProp (He.ga K "Rhyme") (getSp (He.ga K "Rhyme") "own_verses") [] E0 (tVar 4)) (tCons (tProp (He.ga K "Rhyme") (getSp (He.ga K "Rhyme") "own_left") [] E0 (tVar 4)) tNil))) (tCons (tCB (cLst K) (tCons (tVar 2) tNil)) tNil))))) (tOr (tNot (tTest (tOp (rEqI (He.ga K "Rhyme") (sp_Rhymeu_equ K) E0) (tVar 4) (tCall (sp_law_made K) [] E0 (tCons (tVar 2) tNil))))) (tTest (tOp (rEqIT K (He.ga K "Rhyme") (sp_Rhymeu_equB K) E0) (tVar 4) (tOp (rIxT K) (tVar 2) (tC (.int 0)))))))
    (t_law_4a_0 K E) tNext) (t_law_5 K E)

def t_law_3 (K : PySem.W.Frag) (E : XK) : TS := tSeq (tAsg (tCall (sp_law_made K) [] E0 (tCons (tVar 2) tNil)) (gName 4)) (t_law_4 K E)

def t_law_2 (K : PySem.W.Frag) (E : XK) : TS := tSeq (tAsg (tCall (sp_law_drawn K) [] E0 (tCons (tVar 1) tNil)) (gName 3)) (t_law_3 K E)

def t_law_1 (K : PySem.W.Frag) (E : XK) : TS := tSeq (tAsg (tCall (sp_law_drawn K) [] E0 (tCons (tVar 1) tNil)) (gName 2)) (t_law_2 K E)

def t_law_0 (K : PySem.W.Frag) (E : XK) : TS := tSeq (tAsg (tCall (sp_law_random K) [] E0 (tCons (tVar 0) (tCons (tC (.int 908)) tNil))) (gName 1)) (t_law_1 K E)
/-- the state between two questions -/
structure S8 (K : PySem.W.Frag) (H : Hp) (d : Addr) (t : V) (a : Addr) (vs : List Ve) (l : Int) : Prop where
  hD : DSt H d
  hT : Dp K H t (tD vs l)
  hR : RhAt K H a vs l
  na : a ≠ d
section
variable {K : PySem.W.Frag} {H H' : Hp} {d a : Addr} {t : V} {vs : List Ve} {l : Int}
theorem S8.ex (s : S8 K H d t a vs l) (e : Ex H H') : S8 K H' d t a vs l := ⟨dst_ex e s.hD, dp_ex e s.hT, rh_ex e s.hR, s.na⟩
theorem S8.fx (s : S8 K H d t a vs l) (f : Fx d H H') (hD : DSt H' d) : S8 K H' d t a vs l :=
  ⟨hD, dp_fxN (dst_noT s.hD) f (tD_flat vs l) s.hT, rh_fx (dst_noT s.hD) s.na f s.hR, s.na⟩
theorem S8.nn (s : S8 K H d t a vs l) : H d ≠ none := by
  obtain ⟨zs, h⟩ := dst_l s.hD
  rw [h]
  exact fun z => nomatch z
theorem S8.fresh (s : S8 K H d t a vs l) {p : Addr} (hp : H p = none) : p ≠ d := fun z => s.nn (by rw [← z]; exact hp)
end
def odd1 : List PyData := [.none, .tuple [.str "on"], .tuple [.str "on", .int 0], .tuple [.str "on", .int 7], .tuple [.str "on", .bool true], .tuple [.str "off", .int 2], .list [.str "on", .int 2], .str "on", .tuple [.int 2, .str "on"], .tuple [.str "on", .str "2"]]
def odd2 : List PyData := [.tuple [.str "on", .int 2, .int 0], .tuple [.none, .int 2], .tuple [], .int 2, .tuple [.str "back", .int (-1)], .tuple [.str "back", .none]]
def badL : List PyData := [.int 0, .int 4, .bool true, .none, .str "1", .tuple [.int 1], .int (-1)]
theorem odd_ok : ∀ e ∈ odd1 ++ odd2, okF e = true ∧ isVerse e = false := by decide +kernel
theorem bad_ok : ∀ e ∈ badL, flatD e = true ∧ isBet e 1 3 = false := by decide +kernel
theorem flat_okF {e : PyData} (h : flatD e = true) : okF e = true := by
  cases e with
  | list x => cases h
  | _ => exact h

end Z
namespace Z
open PySem PySem.Spec PyProof.Rows L2
local macro_rules | `(tactic| walk_at "look") => `(tactic| first | assumption | exact upd_same | exact SqL.of (by assumption) | exact SqT.of (by assumption) | exact SqL.of upd_same | exact SqT.of upd_same)
local macro_rules | `(tactic| walk_at "at") => `(tactic| first | exact at0 | exact at1 | exact at2 | exact at3 | exact ix0 | exact ix1 | assumption | exact atI_nat (by rfl))
local macro_rules | `(tactic| walk_at "sd") => `(tactic| ((try dsimp only); first | assumption | omega | (unfold CMul; omega) | (unfold CDiv; omega) | (unfold CPow; decide) | decide))
local macro_rules | `(tactic| walk_at "st") => `(tactic| first
  | (refine ⟨_, rfl, ?_⟩)
  | (refine ⟨_, _, rfl, rfl, ?_⟩)
  | (refine ⟨rfl, ?_⟩)
  | (refine .inl ⟨_, rfl, ?_⟩)
  | (refine ⟨_, _, _, _, rfl, rfl, (by walk_at "look"), (by walk_at "at"), ?_⟩)
  | (refine ⟨_, _, rfl, .inl (by walk_at "look"), ?_⟩)
  | (refine And.intro (by walk_at "sd") ?_)
  | fail "no step")
local macro_rules | `(tactic| walk_at "go") => `(tactic| repeat' (walk_at "st"))
local macro_rules | `(tactic| walk_at "ans") => `(tactic| (intro Q q; (repeat' (walk_at "st")); exact q))
section
variable {K : PySem.W.Frag} {E : XK} {D : Ends} {H : Hp} {d a : Addr} {t u : V} {x0 : Option V} {vs us : List Ve} {left m : Int}
theorem law_14 {wr bd : V} {eb : PyData} {s3 s5 s7 s8 : Option V} (s : S8 K H d t a vs left) (ok : RhOk vs left) (hw : ∀ H', Ex H H' → ∀ l, ToldR K H' wr l (.bad (-1))) (hb : Dp K H bd eb) (hn : isBet eb 1 3 = false) (k : ∀ H', D.rt (.bl true) H') :
    t_law_14 K E D [x0, some (.ref d), some t, s3, some (.ref a), s5, some bd, s7, s8, some wr] H := by
  refine ⟨_, rfl, _, rfl, ?_⟩
  unfold sp_law_toldB
  refine ⟨wr, bd, .bad (-1), rfl, hw H (ex_refl H) bd, fun H1 e1 => ?_⟩
  refine ⟨1, rfl, rfl, _, rfl, ?_⟩
  refine iteT' (decide_eq_true rfl) ?_
  obtain ⟨ta, tv, rfl, hs, hv⟩ := tD_at (dp_ex e1 s.hT)
  refine ⟨_, rfl, ta, _, 0, _, rfl, rfl, hs, at0, _, rfl, ?_⟩
  have l1 := ok.l1
  have l4 := ok.l4
  refine ⟨tv, bd, .left, rfl, .left (ds := vs.map vD) (dl := eb) hv (by rw [List.length_map]; exact l1) (by rw [List.length_map]; exact l4) (fun e he => ?_) (dp_ex e1 hb) hn, fun H2 e2 => ⟨rfl, ?_⟩⟩
  · obtain ⟨v, hv, rfl⟩ := List.mem_map.mp he
    exact isVerse_vD (ok.cnt v hv)
  · have e : decide (Rs.left.v = V.str "left") = true := decide_eq_true rfl
    rw [e]
    exact k H2
theorem law_13 {bd : V} {eb : PyData} {s3 s5 s7 s8 s9 : Option V} (s : S8 K H d t a vs left) (ok : RhOk vs left) (hb : Dp K H bd eb) (hf : flatD eb = true) (hn : isBet eb 1 3 = false) (k : ∀ H', D.rt (.bl true) H') :
    t_law_13 K E D [x0, some (.ref d), some t, s3, some (.ref a), s5, some bd, s7, s8, s9] H := by
  have hnt : ∀ {H' : Hp}, Ex H H' → NoT (H' d) := fun e => dst_noT (dst_ex e s.hD)
  obtain ⟨ta, tv, rfl, hs, hv⟩ := tD_at (id s.hT)
  obtain ⟨vp, xs, rfl, hxs, hall⟩ := dp_tup (id hv)
  have l1 := ok.l1
  have l4 := ok.l4
  have hlx : xs.length = vs.length := by
    have := dpa_len hall
    rw [List.length_map] at this
    exact this
  -- ()
  refine ⟨_, rfl, Nat.zero_le _, fun p0 n0 => ?_⟩
  have e0 := ex_new (o := .tup []) n0
  have w0 : WrV K (upd H p0 (.tup [])) d (.ref p0) := wr_len (ds := []) (.tup (SqT.of upd_same) .nil) (hnt e0) rfl (.inl rfl)
  -- None, list(t[0])
  refine ⟨_, rfl, ta, _, 0, _, rfl, rfl, sqt_ex e0 hs, at0, vp, xs, rfl, .inr (sqt_ex e0 hxs), fun p1 n1 => ?_⟩
  have e1 := ex_trans e0 (ex_new (o := .lst xs) n1)
  have w2 : WrV K (upd (upd H p0 (.tup [])) p1 (.lst xs)) d (.ref p1) := wr_lst upd_same ((s.ex e0).fresh n1)
  -- "on", t[0] * 5
  refine ⟨_, rfl, ta, _, 0, _, rfl, rfl, sqt_ex e1 hs, at0, vp, 5, xs, rfl, rfl, sqt_ex e1 hxs, (fun z => by rw [z] at hlx; rw [List.length_nil] at hlx; omega), by decide, by decide, by omega, fun p2 n2 => ?_⟩
  generalize hH1 : upd (upd H p0 (.tup [])) p1 (.lst xs) = H1 at e1 w2 n2 ⊢
  have f2 := ex_new (o := .tup (List.replicate (5 : Int).toNat xs).flatten) n2
  have e2 := ex_trans e1 f2
  have w4 : WrV K (upd H1 p2 (.tup (List.replicate (5 : Int).toNat xs).flatten)) d (.ref p2) := by
    refine wr_len (ds := (List.replicate 5 (vs.map vD)).flatten) (.tup (SqT.of upd_same) (dpa_rep (dpa_ex e2 hall) 5)) (hnt e2) (flat_rep (vsD_flats vs) 5) (.inr ?_)
    show 4 < (vs.map vD ++ (vs.map vD ++ (vs.map vD ++ (vs.map vD ++ (vs.map vD ++ []))))).length
    simp only [List.length_append, List.length_map, List.length_nil]
    omega
  generalize hH2 : upd H1 p2 (.tup (List.replicate (5 : Int).toNat xs).flatten) = H2 at e2 f2 w4 ⊢
  -- {}
  intro p3 n3
  have f3 := ex_new (o := .dK []) n3
  have e3 := ex_trans e2 f3
  have w5 : WrV K (upd H2 p3 (.dK [])) d (.ref p3) := wr_dict upd_same ((s.ex e2).fresh n3)
  generalize hH3 : upd H2 p3 (.dK []) = H3 at e3 f3 w5 ⊢
  -- (("on", 1),) * 5
  refine ⟨by show 2 ≤ sizeLine; decide, fun p4 n4 => ⟨by show 1 ≤ sizeLine; decide, fun p5 n5 => ?_⟩⟩
  have f4 := ex_new (o := .tup [.str "on", .int 1]) n4
  have f5 := ex_new (o := .tup [.ref p4]) n5
  have h4 : Dp K (upd (upd H3 p4 (.tup [.str "on", .int 1])) p5 (.tup [.ref p4])) (.ref p5) (.tuple [vD (true, 1)]) := .tup (SqT.of upd_same) (.cons (dp_ex f5 (.tup (SqT.of upd_same) (.cons (.str _) (.cons (.int _) .nil)))) .nil)
  have e5 := ex_trans e3 (ex_trans f4 f5)
  generalize hH5 : upd (upd H3 p4 (.tup [.str "on", .int 1])) p5 (.tup [.ref p4]) = H5 at e5 h4 ⊢
  have e35 : Ex H3 H5 := by rw [← hH5]; exact ex_trans f4 f5
  obtain ⟨q5, ys, eq5, hq5, hy5⟩ := dp_tup h4
  cases eq5
  have ly : ys.length = 1 := dpa_len hy5
  refine ⟨p5, 5, ys, rfl, rfl, hq5, (fun z => by rw [z] at ly; cases ly), by decide, by decide, by omega, fun p6 n6 => ?_⟩
  have f6 := ex_new (o := .tup (List.replicate (5 : Int).toNat ys).flatten) n6
  have e6 := ex_trans e5 f6
  have w6 : WrV K (upd H5 p6 (.tup (List.replicate (5 : Int).toNat ys).flatten)) d (.ref p6) := by
    refine wr_len (ds := (List.replicate 5 [vD (true, 1)]).flatten) (.tup (SqT.of upd_same) (dpa_rep (dpa_ex f6 hy5) 5)) (hnt e6) (flat_rep rfl 5) (.inr ?_)
    decide
  generalize hH6 : upd H5 p6 (.tup (List.replicate (5 : Int).toNat ys).flatten) = H6 at e6 f6 w6 ⊢
  have e36 := ex_trans e35 f6
  -- the list of them
  refine ⟨by show 8 ≤ sizeLine; decide, fun b nb => ?_⟩
  have fb := ex_new (o := .lst [.ref p0, .non, .ref p1, .str "on", .ref p2, .ref p3, .ref p6, .int 5]) nb
  have e1b : Ex H1 H6 := ex_trans f2 (ex_trans f3 e36)
  have e0b : Ex (upd H p0 (.tup [])) H1 := by rw [← hH1]; exact ex_new n1
  have exb := ex_trans e6 fb
  have all : ∀ w ∈ [V.ref p0, .non, .ref p1, .str "on", .ref p2, .ref p3, .ref p6, .int 5], WrV K (upd H6 b (.lst [.ref p0, .non, .ref p1, .str "on", .ref p2, .ref p3, .ref p6, .int 5])) d w := by
    intro w hw
    simp only [List.mem_cons, List.mem_nil_iff, or_false] at hw
    rcases hw with rfl | rfl | rfl | rfl | rfl | rfl | rfl | rfl
    · exact wr_ex (ex_trans e0b (ex_trans e1b fb)) w0
    · exact wr_flat .non (hnt exb) rfl (by decide +kernel)
    · exact wr_ex (ex_trans e1b fb) w2
    · exact wr_flat (.str _) (hnt exb) rfl (by decide +kernel)
    · exact wr_ex (ex_trans f3 (ex_trans e36 fb)) w4
    · exact wr_ex (ex_trans e36 fb) w5
    · exact wr_ex fb w6
    · exact wr_flat (.int _) (hnt exb) rfl (by decide +kernel)
  have sb := s.ex exb
  have nb' : b ≠ d := (s.ex e6).fresh nb
  unfold sp_law_pick
  refine ⟨d, b, _, rfl, sb.hD, upd_same, nb', (fun z => nomatch z), (by show 8 ≤ 1000; decide), fun i w H7 hw hD7 f7 => ?_⟩
  show t_law_14 K E D [x0, some (.ref d), some (.ref ta), s3, some (.ref a), s5, some bd, s7, s8, some w] H7
  have aw := all w (List.mem_of_getElem? hw)
  refine law_14 (eb := eb) (sb.fx f7 hD7) ok (fun H8 e8 l => aw H8 (fx_trans f7 (fx_ex e8)) l) ?_ hn k
  exact dp_fxN (dst_noT sb.hD) f7 hf (dp_ex exb hb)
end

end Z
namespace Z
open PySem PySem.Spec PyProof.Rows L2
local macro_rules | `(tactic| walk_at "look") => `(tactic| first | assumption | exact upd_same | exact SqL.of (by assumption) | exact SqT.of (by assumption) | exact SqL.of upd_same | exact SqT.of upd_same)
local macro_rules | `(tactic| walk_at "at") => `(tactic| first | exact at0 | exact at1 | exact at2 | exact at3 | exact ix0 | exact ix1 | assumption | exact atI_nat (by rfl))
local macro_rules | `(tactic| walk_at "sd") => `(tactic| ((try dsimp only); first | assumption | omega | (unfold CMul; omega) | (unfold CDiv; omega) | (unfold CPow; decide) | decide))
local macro_rules | `(tactic| walk_at "st") => `(tactic| first
  | (refine ⟨_, rfl, ?_⟩)
  | (refine ⟨_, _, rfl, rfl, ?_⟩)
  | (refine ⟨rfl, ?_⟩)
  | (refine .inl ⟨_, rfl, ?_⟩)
  | (refine ⟨_, _, _, _, rfl, rfl, (by walk_at "look"), (by walk_at "at"), ?_⟩)
  | (refine ⟨_, _, rfl, .inl (by walk_at "look"), ?_⟩)
  | (refine And.intro (by walk_at "sd") ?_)
  | fail "no step")
local macro_rules | `(tactic| walk_at "go") => `(tactic| repeat' (walk_at "st"))
local macro_rules | `(tactic| walk_at "ans") => `(tactic| (intro Q q; (repeat' (walk_at "st")); exact q))
section
variable {K : PySem.W.Frag} {E : XK} {D : Ends} {H : Hp} {d a : Addr} {t u : V} {x0 : Option V} {vs us : List Ve} {left m : Int}
theorem law_12 {od bd v8 : V} {eo eb : PyData} {kk : Nat} {s3 s9 : Option V} (s : S8 K H d t a vs left) (ok : RhOk vs left) (ho : Dp K H od eo) (no : isVerse eo = false) (hb : Dp K H bd eb) (hf : flatD eb = true) (hn : isBet eb 1 3 = false)
    (h8 : Dp K H v8 (.tuple ((vs.map vD).take 3))) (hk : kk ≤ ((vs.map vD).take 3).length) (k : ∀ H', D.rt (.bl true) H') :
    t_law_12 K E D [x0, some (.ref d), some t, s3, some (.ref a), some od, some bd, some (.int (kk : Int)), some v8, s9] H := by
  have hv3 : ∀ e ∈ (vs.map vD).take 3, isVerse e = true := fun e he => by
    obtain ⟨v, hv, rfl⟩ := List.mem_map.mp (List.mem_of_mem_take he)
    exact isVerse_vD (ok.cnt v hv)
  have l3 : ((vs.map vD).take 3).length ≤ 3 := by
    rw [List.length_take]
    omega
  generalize (vs.map vD).take 3 = w3 at h8 hk hv3 l3
  unfold t_law_12
  refine if_goH false (fun Q z => ?_) (fun _ _ z => nomatch z) (fun H' e _ => ?_)
  · -- verses[:k] + (odd,) + verses[k:], bad
    refine ⟨_, rfl, ?_⟩
    dsimp only [tNoPart]
    refine ⟨_, rfl, (kk : Int), rfl, slA_take h8 fun y1 H1 e1 hy1 => ?_⟩
    refine ⟨_, rfl, (by show 1 ≤ sizeLine; decide), fun p hp => ?_⟩
    have e2 := ex_trans e1 (ex_new (o := .tup [od]) hp)
    have hy2 : Dp K (upd H1 p (.tup [od])) (.ref p) (.tuple [eo]) := .tup (SqT.of upd_same) (.cons (dp_ex e2 ho) .nil)
    refine catA_go (dp_ex (ex_new hp) hy1) hy2 (by rw [List.length_take, List.length_singleton]; omega) fun y3 H3 e3 hy3 => ?_
    have e13 := ex_trans e2 e3
    refine ⟨_, rfl, _, rfl, (kk : Int), rfl, ?_⟩
    dsimp only [tNoPart]
    refine slA_drop hk (dp_ex e13 h8) fun y4 H4 e4 hy4 => ?_
    refine catA_go (dp_ex e4 hy3) hy4 (by rw [List.length_append, List.length_take, List.length_drop, List.length_singleton]; omega) fun y5 H5 e5 hy5 => ?_
    have e15 := ex_trans e13 (ex_trans e4 e5)
    refine ⟨_, rfl, ?_⟩
    unfold sp_law_toldB
    obtain ⟨i1, i2⟩ := ins_at (r := w3.drop kk) (x := eo) hk hv3
    refine ⟨y5, bd, .bad (kk : Nat), rfl, .here hy5 ?_ ?_ i1 i2 no, fun H6 e6 => ⟨_, rfl, rfl, _, rfl, ?_⟩⟩
    · rw [List.length_append, List.length_append, List.length_singleton]
      omega
    · rw [List.length_append, List.length_append, List.length_singleton, List.length_take, List.length_drop]
      omega
    have en : (!decide (Rs.v (.bad ((kk : Nat) : Int)) = V.int (kk : Int))) = false := by
      show (!decide (V.int (kk : Int) = V.int (kk : Int))) = false
      rw [decide_eq_true rfl]
      rfl
    rw [en]
    refine iteF' rfl ?_
    have e16 := ex_trans e15 e6
    -- verses[:k] + (odd,), t[1]
    refine ⟨_, rfl, ?_⟩
    dsimp only [tNoPart]
    refine ⟨_, rfl, (kk : Int), rfl, slA_take (dp_ex e16 h8) fun z1 H7 e7 hz1 => ?_⟩
    refine ⟨_, rfl, (by show 1 ≤ sizeLine; decide), fun p2 hp2 => ?_⟩
    have e8 := ex_trans e16 (ex_trans e7 (ex_new (o := .tup [od]) hp2))
    have hz2 : Dp K (upd H7 p2 (.tup [od])) (.ref p2) (.tuple [eo]) := .tup (SqT.of upd_same) (.cons (dp_ex e8 ho) .nil)
    refine catA_go (dp_ex (ex_new hp2) hz1) hz2 (by rw [List.length_take, List.length_singleton]; omega) fun z3 H9 e9 hz3 => ?_
    have e19 := ex_trans e8 e9
    obtain ⟨ta, tv, et, hs, hv⟩ := tD_at (dp_ex e19 s.hT)
    subst et
    refine ⟨_, rfl, ta, _, 1, _, rfl, rfl, hs, at1, ?_⟩
    obtain ⟨j1, j2⟩ := ins_at (r := []) (x := eo) hk hv3
    rw [List.append_nil] at j1 j2
    refine ⟨z3, _, .bad (kk : Nat), rfl, .here hz3 ?_ ?_ j1 j2 no, fun H10 e10 => ⟨_, rfl, rfl, _, rfl, ?_⟩⟩
    · rw [List.length_append, List.length_singleton]
      omega
    · rw [List.length_append, List.length_singleton, List.length_take]
      omega
    rw [en]
    exact z H10 (ex_trans e19 e10)
  · show t_law_13 K E D [x0, some (.ref d), some t, s3, some (.ref a), some od, some bd, some (.int (kk : Int)), some v8, s9] H'
    exact law_13 (eb := eb) (s.ex e) ok (dp_ex e hb) hf hn k
theorem law_9 {od bd : V} {eo eb : PyData} {s3 s7 s8 s9 : Option V} (s : S8 K H d t a vs left) (ok : RhOk vs left) (ho : Dp K H od eo) (oo : okF eo = true) (nod : od ≠ .ref d) (no : isVerse eo = false) (hb : Dp K H bd eb) (hf : flatD eb = true) (hn : isBet eb 1 3 = false) (k : ∀ H', D.rt (.bl true) H') :
    t_law_9 K E D [x0, some (.ref d), some t, s3, some (.ref a), some od, some bd, s7, s8, s9] H := by
  have l1 := ok.l1
  have l4 := ok.l4
  have g200 : (10 : Int) < 2 ^ 200 := by decide
  obtain ⟨ta, tv, rfl, hs, hv⟩ := tD_at (id s.hT)
  obtain ⟨vp, xs, rfl, hxs, hall⟩ := dp_tup (id hv)
  have hlx : xs.length = vs.length := by
    have := dpa_len hall
    rw [List.length_map] at this
    exact this
  refine ⟨_, rfl, _, rfl, ta, _, 0, _, rfl, rfl, hs, at0, vp, xs, rfl, .inr hxs, _, _, rfl, rfl, ?_⟩
  unfold sp_law_below
  refine ⟨d, _, rfl, s.hD, by omega, by omega, fun r H1 r0 r1 hD1 f1 => ?_⟩
  have s1 := s.fx f1 hD1
  have ho1 := dp_fxO (dst_noT s.hD) f1 nod oo ho
  have hb1 := dp_fxN (dst_noT s.hD) f1 hf hb
  show t_law_10 K E D [x0, some (.ref d), some (.ref ta), s3, some (.ref a), some od, some bd, some (.int r), s8, s9] H1
  have hs1 := sqt_fxN (dst_noT s.hD) f1 hs
  have hv1 : Dp K H1 (.ref vp) (vsD vs) := dp_fxN (dst_noT s.hD) f1 (vsD_flat vs) hv
  refine ⟨_, rfl, ta, _, 0, _, rfl, rfl, hs1, at0, ?_⟩
  dsimp only [tNoPart]
  refine ⟨3, rfl, slA_take (k := 3) hv1 fun v8 H2 e2 h8 => ?_⟩
  show t_law_11 K E D [x0, some (.ref d), some (.ref ta), s3, some (.ref a), some od, some bd, some (.int r), some v8, s9] H2
  obtain ⟨p8, x8, rfl, hs8, ha8⟩ := dp_tup (id h8)
  have hl8 := dpa_len ha8
  refine ⟨_, rfl, _, rfl, p8, x8, rfl, .inr hs8, (by show 2 ≤ sizeLine; decide), fun b nb => ?_⟩
  have e3 := ex_trans e2 (ex_new (o := .lst [.int r, .int (x8.length : Nat)]) nb)
  refine ⟨b, [r, ((x8.length : Nat) : Int)], rfl, SqL.of upd_same, (by show 0 < 2; decide), fun m hm hle => ?_⟩
  have m1 := hle r (List.mem_cons_self ..)
  have m2 := hle _ (List.mem_cons_of_mem _ (List.mem_cons_self ..))
  have m0 : 0 ≤ m := by
    rcases List.mem_cons.mp hm with rfl | hm
    · exact r0
    · rw [List.mem_singleton.mp hm]
      omega
  obtain ⟨kk, rfl⟩ : ∃ kk : Nat, m = (kk : Int) := ⟨m.toNat, by omega⟩
  show t_law_12 K E D [x0, some (.ref d), some (.ref ta), s3, some (.ref a), some od, some bd, some (.int (kk : Int)), some (.ref p8), s9] _
  refine law_12 (eo := eo) (eb := eb) (s1.ex e3) ok (dp_ex e3 ho1) no (dp_ex e3 hb1) hf hn (dp_ex (ex_new nb) h8) ?_ k
  rw [← hl8]
  omega
end

end Z
namespace Z
open PySem PySem.Spec PyProof.Rows L2
local macro_rules | `(tactic| walk_at "look") => `(tactic| first | assumption | exact upd_same | exact SqL.of (by assumption) | exact SqT.of (by assumption) | exact SqL.of upd_same | exact SqT.of upd_same)
local macro_rules | `(tactic| walk_at "at") => `(tactic| first | exact at0 | exact at1 | exact at2 | exact at3 | exact ix0 | exact ix1 | assumption | exact atI_nat (by rfl))
local macro_rules | `(tactic| walk_at "sd") => `(tactic| ((try dsimp only); first | assumption | omega | (unfold CMul; omega) | (unfold CDiv; omega) | (unfold CPow; decide) | decide))
local macro_rules | `(tactic| walk_at "st") => `(tactic| first
  | (refine ⟨_, rfl, ?_⟩)
  | (refine ⟨_, _, rfl, rfl, ?_⟩)
  | (refine ⟨rfl, ?_⟩)
  | (refine .inl ⟨_, rfl, ?_⟩)
  | (refine ⟨_, _, _, _, rfl, rfl, (by walk_at "look"), (by walk_at "at"), ?_⟩)
  | (refine ⟨_, _, rfl, .inl (by walk_at "look"), ?_⟩)
  | (refine And.intro (by walk_at "sd") ?_)
  | fail "no step")
local macro_rules | `(tactic| walk_at "go") => `(tactic| repeat' (walk_at "st"))
local macro_rules | `(tactic| walk_at "ans") => `(tactic| (intro Q q; (repeat' (walk_at "st")); exact q))
local macro_rules | `(tactic| walk_at "lits") => `(tactic| repeat' (first | exact lit_nil | exact lit_int _ | exact lit_str _ | exact lit_non | exact lit_bl _ | exact lit_neg _ | apply lit_cons | (refine lit_tup ?_ (by decide)) | (refine lit_lst ?_ (by decide))))
section
variable {K : PySem.W.Frag} {E : XK} {D : Ends} {H : Hp} {d a : Addr} {t u : V} {x0 : Option V} {vs us : List Ve} {left m : Int}
theorem law_6 {s3 s5 s6 s7 s8 s9 : Option V} (s : S8 K H d t a vs left) (ok : RhOk vs left) (k : ∀ H', D.rt (.bl true) H') :
    t_law_6 K E D [x0, some (.ref d), some t, s3, some (.ref a), s5, s6, s7, s8, s9] H := by
  have A1 : LitA d K (tCons (tC .non) (tCons (tTup (tCons (tC (.str "on")) tNil)) (tCons (tTup (tCons (tC (.str "on")) (tCons (tC (.int 0)) tNil))) (tCons (tTup (tCons (tC (.str "on")) (tCons (tC (.int 7)) tNil))) (tCons (tTup (tCons (tC (.str "on")) (tCons (tC (.bl true)) tNil))) (tCons (tTup (tCons (tC (.str "off")) (tCons (tC (.int 2)) tNil))) (tCons (tLst (tCons (tC (.str "on")) (tCons (tC (.int 2)) tNil))) (tCons (tC (.str "on")) (tCons (tTup (tCons (tC (.int 2)) (tCons (tC (.str "on")) tNil))) (tCons (tTup (tCons (tC (.str "on")) (tCons (tC (.str "2")) tNil))) tNil)))))))))) odd1 := by
    unfold odd1
    walk_at "lits"
  have A2 : LitA d K (tCons (tTup (tCons (tC (.str "on")) (tCons (tC (.int 2)) (tCons (tC (.int 0)) tNil)))) (tCons (tTup (tCons (tC .non) (tCons (tC (.int 2)) tNil))) (tCons (tTup tNil) (tCons (tC (.int 2)) (tCons (tTup (tCons (tC (.str "back")) (tCons (tUn oNeg (tC (.int 1))) tNil))) (tCons (tTup (tCons (tC (.str "back")) (tCons (tC .non) tNil))) tNil)))))) odd2 := by
    unfold odd2
    walk_at "lits"
  have A3 : LitA d K (tCons (tC (.int 0)) (tCons (tC (.int 4)) (tCons (tC (.bl true)) (tCons (tC .non) (tCons (tC (.str "1")) (tCons (tTup (tCons (tC (.int 1)) tNil)) (tCons (tUn oNeg (tC (.int 1))) tNil))))))) badL := by
    unfold badL
    walk_at "lits"
  unfold t_law_6 tSeq tAsg
  refine lstA_go (es := odd1) A1 s.nn (by decide) fun xs H1 q e1 hxs nxs nq nqd => ?_
  have lx : xs.length = 10 := dpa_len hxs
  have e2 := ex_trans e1 (ex_new (o := .lst xs) nq)
  show t_law_7 K E D [x0, some (.ref d), some t, s3, some (.ref a), some (.ref q), s6, s7, s8, s9] (upd H1 q (.lst xs))
  have hqq : (upd H1 q (.lst xs)) q = some (.lst xs) := upd_same
  have hxs2 := dpa_ex (ex_new (o := .lst xs) nq) hxs
  generalize upd H1 q (.lst xs) = H2 at e2 hqq hxs2 ⊢
  refine ⟨_, rfl, _, rfl, ?_⟩
  refine lstA_go (es := odd2) A2 (s.ex e2).nn (by decide) fun zs H3 b e3 hzs nzs nb nbd => ?_
  have lz : zs.length = 6 := dpa_len hzs
  have eb := ex_new (o := .lst zs) nb
  refine ⟨q, b, xs, zs, rfl, rfl, eb _ _ (e3 _ _ hqq), upd_same, (by rw [lx, lz]; decide), fun p np => ?_⟩
  have ep := ex_new (o := .lst (xs ++ zs)) np
  have e3p := ex_trans eb ep
  have e4 := ex_trans e2 (ex_trans e3 e3p)
  have s4 := s.ex e4
  have hpp : (upd (upd H3 b (.lst zs)) p (.lst (xs ++ zs))) p = some (.lst (xs ++ zs)) := upd_same
  have hall := dpa_app (dpa_ex (ex_trans e3 e3p) hxs2) (dpa_ex e3p hzs)
  have npd := (s.ex (ex_trans e2 (ex_trans e3 eb))).fresh np
  generalize upd (upd H3 b (.lst zs)) p (.lst (xs ++ zs)) = H4 at e4 s4 hpp hall ⊢
  have hne : xs ++ zs ≠ [] := fun z => by
    have := congrArg List.length z
    rw [List.length_append, lx, lz] at this
    cases this
  have hav : ∀ v ∈ xs ++ zs, v ≠ .ref d := fun v hv => by
    rcases List.mem_append.mp hv with hv | hv
    · exact nxs v hv
    · exact nzs v hv
  refine pickO_go (d := d) (p := p) (es := odd1 ++ odd2) s4.hD hpp npd hne (by rw [List.length_append, lx, lz]; decide) hall hav (fun e he => (odd_ok e he).1) fun od eo H5 meo hod nod hD5 f5 => ?_
  show t_law_8 K E D [x0, some (.ref d), some t, s3, some (.ref a), some od, s6, s7, s8, s9] H5
  have s5 := s4.fx f5 hD5
  obtain ⟨oo, no⟩ := odd_ok eo meo
  refine ⟨_, rfl, ?_⟩
  refine lstA_go1 (es := badL) A3 s5.nn (by decide) fun ys H6 c e6 hys nys nc ncd => ?_
  have ly : ys.length = 7 := dpa_len hys
  have e7 := ex_trans e6 (ex_new (o := .lst ys) nc)
  have s7' := s5.ex e7
  refine pickO_go (d := d) (p := c) (es := badL) s7'.hD upd_same ncd (fun z => by rw [z] at ly; cases ly) (by rw [ly]; decide) (dpa_ex (ex_new nc) hys) nys (fun e he => flat_okF (bad_ok e he).1) fun bd eb' H8 meb hbd nbd' hD8 f8 => ?_
  show t_law_9 K E D [x0, some (.ref d), some t, s3, some (.ref a), some od, some bd, s7, s8, s9] H8
  obtain ⟨fb, nb2⟩ := bad_ok eb' meb
  exact law_9 (s7'.fx f8 hD8) ok (dp_fxO (dst_noT s7'.hD) f8 nod oo (dp_ex e7 hod)) oo nod no hbd fb nb2 k
end

end Z
namespace Z
open PySem PySem.Spec PyProof.Rows L2
local macro_rules | `(tactic| walk_at "look") => `(tactic| first | assumption | exact upd_same | exact SqL.of (by assumption) | exact SqT.of (by assumption) | exact SqL.of upd_same | exact SqT.of upd_same)
local macro_rules | `(tactic| walk_at "at") => `(tactic| first | exact at0 | exact at1 | exact at2 | exact at3 | exact ix0 | exact ix1 | assumption | exact atI_nat (by rfl))
local macro_rules | `(tactic| walk_at "sd") => `(tactic| ((try dsimp only); first | assumption | omega | (unfold CMul; omega) | (unfold CDiv; omega) | (unfold CPow; decide) | decide))
local macro_rules | `(tactic| walk_at "st") => `(tactic| first
  | (refine ⟨_, rfl, ?_⟩)
  | (refine ⟨_, _, rfl, rfl, ?_⟩)
  | (refine ⟨rfl, ?_⟩)
  | (refine .inl ⟨_, rfl, ?_⟩)
  | (refine ⟨_, _, _, _, rfl, rfl, (by walk_at "look"), (by walk_at "at"), ?_⟩)
  | (refine ⟨_, _, rfl, .inl (by walk_at "look"), ?_⟩)
  | (refine And.intro (by walk_at "sd") ?_)
  | fail "no step")
local macro_rules | `(tactic| walk_at "go") => `(tactic| repeat' (walk_at "st"))
local macro_rules | `(tactic| walk_at "ans") => `(tactic| (intro Q q; (repeat' (walk_at "st")); exact q))
section
variable {K : PySem.W.Frag} {E : XK} {D : Ends} {H : Hp} {d a : Addr} {t u : V} {x0 : Option V} {vs us : List Ve} {left m : Int}
theorem equ_go {b : Addr} {Q : VK} {l1 : Int} {H : Hp} (ha : RhAt K H a vs left) (hb : RhAt K H b us l1) (q : Q (.bl (decide (vs = us) && decide (left = l1))) H) : rEqI (He.ga K "Rhyme") (sp_Rhymeu_equ K) E (.ref a) (.ref b) H Q := by
  obtain ⟨dx1, _, _, g1, _, _⟩ := id ha
  obtain ⟨dx2, _, _, g2, _, _⟩ := id hb
  refine ⟨a, b, dx1, dx2, _, _, rfl, rfl, g1, g2, ?_⟩
  unfold sp_Rhymeu_equ
  exact ⟨a, b, vs, us, left, l1, rfl, ha, hb, q⟩
theorem made_go {Q : VK} {H : Hp} {x : V} (hx : Dp K H x (tD vs left)) (ok : RhOk vs left) (k : ∀ (p : Addr) (H' : Hp), H p = none → Ex H H' → RhAt K H' p vs left → Q (.ref p) H') : sp_law_made K [x] H Q E := by
  unfold sp_law_made
  exact ⟨x, vs, left, rfl, hx, ok, k⟩
theorem law_5 {s5 s6 s7 s8 s9 : Option V} (s : S8 K H d t a vs left) (ok : RhOk vs left) (hU : Dp K H u (tD us m)) (okU : RhOk us m) (k : ∀ H', D.rt (.bl true) H') :
    t_law_5 K E D [x0, some (.ref d), some t, some u, some (.ref a), s5, s6, s7, s8, s9] H := by
  have l1 := ok.l1
  have l4 := ok.l4
  unfold t_law_5
  refine if_goH false (fun Q z => ?_) (fun _ _ z => nomatch z) (fun H' e _ => ?_)
  · obtain ⟨dx, tv0, tr, ha, _, _⟩ := id s.hR
    refine ⟨_, rfl, _, rfl, made_go hU okU fun b H1 nb e1 R1 => ?_⟩
    refine equ_go (rh_ex e1 s.hR) R1 ?_
    refine ⟨_, rfl, _, rfl, tD vs left, tD us m, dp_ex e1 s.hT, dp_ex e1 hU, shaped_tD _ _, shaped_tD _ _, ?_⟩
    refine ne_boolsB (eqv_tD vs us left m).symm ⟨_, rfl, iteF' rfl ?_⟩
    refine ⟨_, rfl, a, dx, _, rfl, e1 _ _ ha, rhF_no _ _ _ (by decide) (by decide) (by decide), ?_⟩
    unfold sp_Rhyme_turned
    refine ⟨a, vs, left, rfl, rh_ex e1 s.hR, ok, fun p H2 np e2 hP => ?_⟩
    have e12 := ex_trans e1 e2
    obtain ⟨ta, tv, et, hs, hv⟩ := tD_at (dp_ex e12 s.hT)
    subst et
    refine ⟨_, rfl, ta, _, 0, _, rfl, rfl, hs, at0, 1, rfl, _, rfl, ?_⟩
    dsimp only [tNoPart]
    refine slA_last (by rw [List.length_map]; exact l1) hv fun y H3 e3 hy => ?_
    rw [List.length_map] at hy
    refine ⟨_, rfl, ta, _, 0, _, rfl, rfl, sqt_ex e3 hs, at0, ?_⟩
    dsimp only [tNoPart]
    refine ⟨1, rfl, _, rfl, ?_⟩
    refine slA_most (by rw [List.length_map]; exact l1) (dp_ex e3 hv) fun z' H4 e4 hz => ?_
    rw [List.length_map] at hz
    refine catA_go (dp_ex e4 hy) hz (by rw [List.length_drop, List.length_take, List.length_map]; omega) fun w H5 e5 hw => ?_
    have hw2 : Dp K H5 w (vsD (rotV vs)) := by
      unfold rotV vsD
      rw [List.map_append, List.map_drop, List.map_take]
      exact hw
    have e35 := ex_trans e3 (ex_trans e4 e5)
    refine ⟨_, rfl, ta, _, 1, _, rfl, rfl, sqt_ex e35 hs, at1, fun b2 db nb2 ndb ne => ?_⟩
    have e6 : Ex H5 (upd (upd H5 db (.own b2)) b2 (.ins (He.ga K "Rhyme") db [])) := fun b o e => by
      rw [upd_ne (ne_of_none e nb2), upd_ne (ne_of_none e ndb)]
      exact e
    unfold sp_Rhymeu_initu
    refine ⟨b2, db, w, rotV vs, left, rfl, upd_same, dp_ex e6 hw2, rotV_ok ok, fun H7 R7 f7 => ⟨rfl, ?_⟩⟩
    have e7 : Ex H5 H7 := fun b o h => f7 b o (e6 b o h) (ne_of_none h nb2)
    refine equ_go (rh_ex (ex_trans e35 e7) hP) R7 ?_
    rw [decide_eq_true rfl, decide_eq_true rfl]
    exact ⟨true, rfl, z H7 (ex_trans e12 (ex_trans e35 e7))⟩
  · show t_law_6 K E D [x0, some (.ref d), some t, some u, some (.ref a), s5, s6, s7, s8, s9] H'
    exact law_6 (s.ex e) ok k
theorem law_4 {s5 s6 s7 s8 s9 : Option V} (TK : PySem.W.kitOne K (.type "tuple") (.ref (He.ga K "Rhyme")) = some false) (TS : PySem.W.subIn K (.type "tuple") (.ref (He.ga K "Rhyme")) = some false) (s : S8 K H d t a vs left) (ok : RhOk vs left) (hU : Dp K H u (tD us m)) (okU : RhOk us m) (k : ∀ H', D.rt (.bl true) H') :
    t_law_4 K E D [x0, some (.ref d), some t, some u, some (.ref a), s5, s6, s7, s8, s9] H := by
  unfold t_law_4
  refine if_goH false (fun Q z => ?_) (fun _ _ z => nomatch z) (fun H' e _ => ?_)
  · obtain ⟨dx, tv0, tr, ha, hv0, _⟩ := id s.hR
    obtain ⟨ta, tv, et, hs, hv⟩ := tD_at (id s.hT)
    subst et
    refine ⟨_, rfl, a, dx, _, rfl, ha, a, dx, _, tv0, rfl, ha, rhF_v _ _ _, ?_⟩
    refine ⟨_, rfl, a, dx, _, rfl, ha, a, dx, _, .int left, rfl, ha, rhF_l _ _ _, ?_⟩
    refine ⟨(by show 2 ≤ sizeLine; decide), fun p np => ?_⟩
    have e1 := ex_new (o := .lst [tv0, .int left]) np
    refine ⟨_, rfl, ta, _, rfl, .inr (sqt_ex e1 hs), fun q nq => ?_⟩
    have e2 := ex_new (o := .lst [tv, .int left]) nq
    have e12 := ex_trans e1 e2
    refine equal_go (d := .list [vsD vs, .int left]) (.lst (SqL.of (e2 _ _ upd_same)) (.cons (dp_ex e12 hv0) (.cons (.int _) .nil))) (.lst (SqL.of upd_same) (.cons (dp_ex e12 hv) (.cons (.int _) .nil))) ⟨by show 2 ≤ 10000; decide, fun g hg => ?_⟩ fun H3 e3 => ⟨true, rfl, iteF' rfl ?_⟩
    · rcases List.mem_cons.mp hg with rfl | hg
      · exact okD_vs ok.l4
      · rw [List.mem_singleton.mp hg]
        trivial
    have e13 := ex_trans e12 e3
    refine ⟨_, rfl, _, rfl, made_go (dp_ex e13 s.hT) ok fun b H4 nb e4 R4 => ?_⟩
    have e14 := ex_trans e13 e4
    refine equ_go (rh_ex e14 s.hR) R4 ?_
    rw [decide_eq_true rfl, decide_eq_true rfl]
    refine ⟨true, rfl, iteF' rfl ?_⟩
    refine ⟨_, rfl, _, rfl, ta, _, 0, _, rfl, rfl, sqt_ex e14 hs, at0, ?_⟩
    refine ⟨a, dx, _, "tuple", rfl, e14 _ _ ha, dp_ty (dp_ex e14 hv), TS, ?_⟩
    unfold sp_Rhymeu_equB
    exact ⟨a, tv, rfl, .inr ⟨"tuple", dp_ty (dp_ex e14 hv), TK, false, rfl, z H4 e14⟩⟩
  · show t_law_5 K E D [x0, some (.ref d), some t, some u, some (.ref a), s5, s6, s7, s8, s9] H'
    exact law_5 (s.ex e) ok (dp_ex e hU) okU k
end
theorem pure_law {K : PySem.W.Frag} (TK : PySem.W.kitOne K (.type "tuple") (.ref (He.ga K "Rhyme")) = some false) (TS : PySem.W.subIn K (.type "tuple") (.ref (He.ga K "Rhyme")) = some false) (ws : List V) (H : Hp) (Q : VK) (E : XK) (h : sp_law K ws H Q E) :
    t_law_0 K E { nx := fun _ H' => Q .non H', rt := Q } (start ["_law_script", "_law_d", "_law_t", "_law_u", "_law_rhyme", "_law_odd", "_law_bad", "_law_k", "_law_verses", "_law_wrong"] ws) H := by
  unfold sp_law at h
  obtain ⟨b0, ns, rfl, hS, hn, k⟩ := h
  show t_law_0 K E _ [some (.ref b0), none, none, none, none, none, none, none, none, none] H
  refine ⟨_, rfl, ?_⟩
  unfold sp_law_random
  refine ⟨b0, ns, 908, rfl, hS, hn, by decide, by decide, fun d H1 hd e1 hD => ?_⟩
  show t_law_1 K E _ [some (.ref b0), some (.ref d), none, none, none, none, none, none, none, none] H1
  refine ⟨_, rfl, ?_⟩
  unfold sp_law_drawn
  refine ⟨d, rfl, hD, fun t vs l H2 ok hT hD2 f2 => ?_⟩
  show t_law_2 K E _ [some (.ref b0), some (.ref d), some t, none, none, none, none, none, none, none] H2
  refine ⟨_, rfl, ?_⟩
  unfold sp_law_drawn
  refine ⟨d, rfl, hD2, fun u us m H3 okU hU hD3 f3 => ?_⟩
  show t_law_3 K E _ [some (.ref b0), some (.ref d), some t, some u, none, none, none, none, none, none] H3
  have hT3 := dp_fxN (dst_noT hD2) f3 (tD_flat vs l) hT
  refine ⟨_, rfl, made_go hT3 ok fun a H4 ha e4 R => ?_⟩
  show t_law_4 K E _ [some (.ref b0), some (.ref d), some t, some u, some (.ref a), none, none, none, none, none] H4
  exact law_4 TK TS ⟨dst_ex e4 hD3, dp_ex e4 hT3, R, dst_ne hD3 ha⟩ ok (dp_ex e4 hU) okU k
theorem law_pre {K : PySem.W.Frag} {H : Hp} (a : Addr) (ns : List Int) (hS : SqL K H a (ns.map V.int)) (hn : ns.length ≤ 63) : sp_law K [.ref a] H (fun v _ => v = .bl true) fun _ _ _ => False := by
  unfold sp_law
  exact ⟨a, ns, rfl, hS, hn, fun _ => rfl⟩

end Z
namespace Z
open PySem PySem.Spec PyProof.Rows L2
local macro_rules | `(tactic| walk_at "len") => `(tactic| repeat (first | (obtain ⟨rfl, _⟩ := ‹_ ∧ _›; rfl) | (rename_i h; obtain ⟨_, h⟩ := h)))
def top (i : Nat) : Stmt := PySem.Challenge.pw_outrhymes_k08_rhymes_kept_and_refused.main.body.getD i (.Pass ⟨0, 0, 0, 0⟩)
abbrev s_law_random : Stmt := top 14
abbrev s_law_below : Stmt := top 15
abbrev s_law_pick : Stmt := top 16
abbrev s_law_drawn : Stmt := top 18
abbrev s_is_between : Stmt := top 10
abbrev s_is_verse : Stmt := top 11
abbrev s_Rhymeu_initu : Stmt := inClass (top 12) 0
abbrev s_law_made : Stmt := top 19
abbrev s_law_equal : Stmt := top 17
abbrev s_Rhyme_turned : Stmt := inClass (top 12) 4
abbrev s_law_told : Stmt := top 20
abbrev s_Rhymeu_equ : Stmt := inClass (top 12) 3
abbrev s_law : Stmt := top 21
theorem sc_law_random : FnScope ["_law_script", "_law_salt", "_law_seed", "_law_cell"] ["_law_script", "_law_salt"] (defScope s_law_random) := ⟨rfl, rfl, rfl, by decide +kernel, rfl, by decide +kernel, by decide +kernel⟩
theorem sc_law_below : FnScope ["_law_d", "_law_size", "_law_result"] ["_law_d", "_law_size"] (defScope s_law_below) := ⟨rfl, rfl, rfl, by decide +kernel, rfl, by decide +kernel, by decide +kernel⟩
theorem sc_law_pick : FnScope ["_law_d", "_law_items"] ["_law_d", "_law_items"] (defScope s_law_pick) := ⟨rfl, rfl, rfl, by decide +kernel, rfl, by decide +kernel, by decide +kernel⟩
theorem sc_law_drawn : FnScope ["_law_d", "_law_verses", "_law_k"] ["_law_d"] (defScope s_law_drawn) := ⟨rfl, rfl, rfl, by decide +kernel, rfl, by decide +kernel, by decide +kernel⟩
theorem sc_is_between : FnScope ["value", "least", "most"] ["value", "least", "most"] (defScope s_is_between) := ⟨rfl, rfl, rfl, by decide +kernel, rfl, by decide +kernel, by decide +kernel⟩
theorem sc_is_verse : FnScope ["value"] ["value"] (defScope s_is_verse) := ⟨rfl, rfl, rfl, by decide +kernel, rfl, by decide +kernel, by decide +kernel⟩
theorem sc_Rhymeu_inituR : FnScope ["self", "verses", "left", "index", "verse", "way", "count"] ["self", "verses", "left"] (defScope s_Rhymeu_initu) := ⟨rfl, rfl, rfl, by decide +kernel, rfl, by decide +kernel, by decide +kernel⟩
theorem sc_law_made : FnScope ["_law_t"] ["_law_t"] (defScope s_law_made) := ⟨rfl, rfl, rfl, by decide +kernel, rfl, by decide +kernel, by decide +kernel⟩
theorem sc_law_equal : FnScope ["_law_actual", "_law_expected", "_law_key", "_law_k"] ["_law_actual", "_law_expected"] (defScope s_law_equal) := ⟨rfl, rfl, rfl, by decide +kernel, rfl, by decide +kernel, by decide +kernel⟩
theorem sc_Rhyme_turned : FnScope ["self"] ["self"] (defScope s_Rhyme_turned) := ⟨rfl, rfl, rfl, by decide +kernel, rfl, by decide +kernel, by decide +kernel⟩
theorem sc_law_toldB : FnScope ["_law_verses", "_law_left", "_law_told_here", "e"] ["_law_verses", "_law_left"] (defScope s_law_told) := ⟨rfl, rfl, rfl, by decide +kernel, rfl, by decide +kernel, by decide +kernel⟩
theorem sc_Rhymeu_equB : FnScope ["self", "other"] ["self", "other"] (defScope s_Rhymeu_equ) := ⟨rfl, rfl, rfl, by decide +kernel, rfl, by decide +kernel, by decide +kernel⟩
theorem sc_law : FnScope ["_law_script", "_law_d", "_law_t", "_law_u", "_law_rhyme", "_law_odd", "_law_bad", "_law_k", "_law_verses", "_law_wrong"] ["_law_script"] (defScope s_law) := ⟨rfl, rfl, rfl, by decide +kernel, rfl, by decide +kernel, by decide +kernel⟩
abbrev s_BadVersesu_initu : Stmt := inClass (top 2) 0
abbrev d_BadVersesu_initu : SupD := ⟨"BadVerses", "index", "BadVerses.__init__", s_BadVersesu_initu⟩
abbrev s_Rhyme_left : Stmt := inClass (top 12) 2
abbrev d_Rhyme_left : PropD := ⟨"Rhyme", "left", "Rhyme.left", s_Rhyme_left⟩
theorem sc_Rhyme_left : FnScope ["self"] ["self"] (defScope s_Rhyme_left) := ⟨rfl, rfl, rfl, by decide +kernel, rfl, by decide +kernel, by decide +kernel⟩
abbrev s_Rhyme_verses : Stmt := inClass (top 12) 1
abbrev d_Rhyme_verses : PropD := ⟨"Rhyme", "verses", "Rhyme.verses", s_Rhyme_verses⟩
theorem sc_Rhyme_verses : FnScope ["self"] ["self"] (defScope s_Rhyme_verses) := ⟨rfl, rfl, rfl, by decide +kernel, rfl, by decide +kernel, by decide +kernel⟩
structure Tw (K : PySem.W.Frag) (mg : Str → Option Value) : Prop where
  k_BACK : ∃ u, mg "BACK" = some u ∧ RelV (.str "back") u
  k_MOST_COUNT : ∃ u, mg "MOST_COUNT" = some u ∧ RelV (.int 6) u
  k_MOST_LEFT : ∃ u, mg "MOST_LEFT" = some u ∧ RelV (.int 3) u
  k_MOST_VERSES : ∃ u, mg "MOST_VERSES" = some u ∧ RelV (.int 4) u
  k_ON : ∃ u, mg "ON" = some u ∧ RelV (.str "on") u
  x_BadLeft : XcK K mg "BadLeft"
  f_abs : mg "abs" = none
  f_all : mg "all" = none
  f_bool : mg "bool" = none
  f_dict : mg "dict" = none
  f_enumerate : mg "enumerate" = none
  f_int : mg "int" = none
  f_isinstance : mg "isinstance" = none
  f_len : mg "len" = none
  f_list : mg "list" = none
  f_min : mg "min" = none
  f_range : mg "range" = none
  f_sorted : mg "sorted" = none
  f_str : mg "str" = none
  f_super : mg "super" = none
  f_tuple : mg "tuple" = none
  g_BadLeft : mg "BadLeft" = some (.ref (He.ga K "BadLeft"))
  g_BadVerses : mg "BadVerses" = some (.ref (He.ga K "BadVerses"))
  g_Rhyme : mg "Rhyme" = some (.ref (He.ga K "Rhyme"))
  d_law_random : mg "_law_random" = some (.ref (He.ga K "_law_random"))
  d_law_below : mg "_law_below" = some (.ref (He.ga K "_law_below"))
  d_law_pick : mg "_law_pick" = some (.ref (He.ga K "_law_pick"))
  d_law_drawn : mg "_law_drawn" = some (.ref (He.ga K "_law_drawn"))
  d_is_between : mg "is_between" = some (.ref (He.ga K "is_between"))
  d_is_verse : mg "is_verse" = some (.ref (He.ga K "is_verse"))
  d_law_made : mg "_law_made" = some (.ref (He.ga K "_law_made"))
  d_law_equal : mg "_law_equal" = some (.ref (He.ga K "_law_equal"))
  d_law_toldB : mg "_law_told" = some (.ref (He.ga K "_law_told"))
  d_law : mg "law" = some (.ref (He.ga K "law"))
  rh : RhC K
  ins : C8.InsC K (He.ga K "Rhyme")
  mk_Rhyme : (He.Fa.mkr "Rhyme").ok K = true
  mt_Rhyme_uequ : (He.Fa.meth "Rhyme" "__eq__").ok K = true
  mt_Rhyme_turned : (He.Fa.meth "Rhyme" "turned").ok K = true
  tx : TolX K
  tk : PySem.W.kitOne K (.type "tuple") (.ref (He.ga K "Rhyme")) = some false
  ts : PySem.W.subIn K (.type "tuple") (.ref (He.ga K "Rhyme")) = some false
  s_BadVerses : SupF K d_BadVersesu_initu "/claim/cut.py"
  p_left : PropF K d_Rhyme_left
  p_verses : PropF K d_Rhyme_verses
section
variable {P : Program} {w : World} {K : PySem.W.Frag} {mg : Str → Option Value} {base : Heap}
theorem oks_BadVerses (T : Tw K mg) (hfile : ((P.main.file : Str) == "/claim/cut.py") = true) (htop : (P.main.scope.names.lookup ("super" : Str)).isSome = false) : XsK P w K mg base 1 "BadVerses" "index" :=
  xsK_of (par := "index") (d := d_BadVersesu_initu) T.s_BadVerses T.g_BadVerses hfile htop T.f_super (fun env => ⟨_, rfl⟩) (NdefX.nscope_by (by decide +kernel)) (by decide +kernel) (by decide +kernel) rfl (fun _ _ _ _ _ _ _ _ _ => rfl) (by decide) (by decide)
theorem okp_left (T : Tw K mg) : Cp P w K mg base 1 (He.ga K "Rhyme") "left" (getSp (He.ga K "Rhyme") "own_left") :=
  cp_of (d := d_Rhyme_left) T.p_left T.rh.cl T.rh.nl sc_Rhyme_left rfl rfl (fun _ _ _ _ _ _ us hl => match us, hl with | [_], _ => rfl)
theorem okp_verses (T : Tw K mg) : Cp P w K mg base 1 (He.ga K "Rhyme") "verses" (getSp (He.ga K "Rhyme") "own_verses") :=
  cp_of (d := d_Rhyme_verses) T.p_verses T.rh.cl T.rh.nv sc_Rhyme_verses rfl rfl (fun _ _ _ _ _ _ us hl => match us, hl with | [_], _ => rfl)
theorem ok_law_random (T : Tw K mg)  (F : ∃ fd, FnT K "_law_random" "_law_random" s_law_random [] (He.ga K "_law_random") fd) : Cl P w K mg base 1 "_law_random" (sp_law_random K) [] := by
  refine cl_of F T.d_law_random sc_law_random (fun vs H Q E h => ?_) (fun _ _ _ _ _ _ us hl => match us, hl with | [_, _], _ => rfl) (fun cdv A outer s H vs Q E hr h => ?_)
  · unfold sp_law_random at h
    repeat (first | (obtain ⟨rfl, _⟩ := h; rfl) | (obtain ⟨_, h⟩ := h))
  · have nd := sc_law_random.nd
    exact ⟨_, (pss_cons (ps_set (i := 2) nd rfl (Or.inl rfl) (pv 1))
      (pss_cons (ps_for ownsE rfl (pi_list (pv 0)) (pg_name (i := 3) nd rfl (Or.inl rfl))
      (pss_one (ps_set (i := 2) nd rfl (Or.inl rfl) (pe_op op_mod (pe_callTy call_int1 rfl T.f_int (by decide +kernel) (pa_cons (pe_op op_add (pe_op op_mul (pv 2) pe_int) (pe_callB call_abs rfl T.f_abs (by decide +kernel) (pa_cons (pv 3) pa_nil))) pa_nil)) pe_int))))
      (pss_one (ps_ret (pe_op op_cat (pe_lst (pa_cons (pv 2) (pa_cons pe_int pa_nil))) (pe_lc (own := [("_law_cell", 3)]) (g := (gName 3)) (tt := (tTest (tOp oGe (tVar 3) (tOp oPow (tC (.int 10)) (tC (.int 18)))))) (te := (tVar 3)) rfl nd (pi_list (pv 0)) (blkOk_by (N := ["_law_script", "_law_salt", "_law_seed", "_law_cell"]) (sc := defScope s_law_random) (by decide +kernel)) (fun _ _ _ _ _ => (pg_name (i := 3) nd rfl (Or.inl rfl))) (fun _ _ _ _ _ => (pts_one (pt_cmpR op_ge (pv 3) (pe_op op_pow pe_int pe_int) (nomark _)))) (fun _ _ _ _ _ => (pv 3)))))))), by with_unfolding_all exact pure_law_random  vs H Q E h⟩
theorem ok_law_below (T : Tw K mg)  (F : ∃ fd, FnT K "_law_below" "_law_below" s_law_below [] (He.ga K "_law_below") fd) : Cl P w K mg base 1 "_law_below" (sp_law_below K) [] := by
  refine cl_of F T.d_law_below sc_law_below (fun vs H Q E h => ?_) (fun _ _ _ _ _ _ us hl => match us, hl with | [_, _], _ => rfl) (fun cdv A outer s H vs Q E hr h => ?_)
  · unfold sp_law_below at h
    repeat (first | (obtain ⟨rfl, _⟩ := h; rfl) | (obtain ⟨_, h⟩ := h))
  · have nd := sc_law_below.nd
    exact ⟨_, (pss_cons (ps_if (PW.pt (pw_and (pt_cmpR op_eq (pe_ix ix_list (pv 0) pe_int (fun _ _ => rfl)) pe_int (nomark _)) (pw_and1 (pt_cmpR op_gt (pe_callB call_len_seq rfl T.f_len (by decide +kernel) (pa_cons (pv 0) pa_nil)) pe_int (nomark _))))) (pss_one (ps_asg (pe_bm PySem.F.plainAttrs_list PySem.F.slot_list_pop PySem.F.type_list_pop mt_popAt (pv 0) (pa_cons pe_int pa_nil)) (pg_sub (pv 0) pe_int set_list))) pss_nil)
      (pss_cons (ps_if (pt_cmpR op_gt (pe_ix ix_list (pv 0) pe_int (fun _ _ => rfl)) pe_int (nomark _)) (pss_cons (ps_set (i := 2) nd rfl (Or.inl rfl) (pe_op op_mod (pe_callTy call_int1 rfl T.f_int (by decide +kernel) (pa_cons (pe_ix ix_list (pv 0) pe_int (fun _ _ => rfl)) pa_nil)) (pv 1)))
      (pss_cons (ps_asg (pe_op op_fdivW (pe_ix ix_list (pv 0) pe_int (fun _ _ => rfl)) (pv 1)) (pg_sub (pv 0) pe_int set_list))
      (pss_one (ps_ret (pv 2))))) pss_nil)
      (pss_cons (ps_asg (pe_op op_mod (pe_callTy call_int1 rfl T.f_int (by decide +kernel) (pa_cons (pe_op op_add (pe_op op_mul (pe_ix ix_list (pv 0) pe_int (fun _ _ => rfl)) pe_int) pe_int) pa_nil)) pe_int) (pg_sub (pv 0) pe_int set_list))
      (pss_one (ps_ret (pe_op op_mod (pe_callTy call_int1 rfl T.f_int (by decide +kernel) (pa_cons (pe_op op_fdiv (pe_ix ix_list (pv 0) pe_int (fun _ _ => rfl)) pe_int) pa_nil)) (pv 1))))))), by with_unfolding_all exact pure_law_below  vs H Q E h⟩
theorem ok_law_pick (T : Tw K mg) (c_law_below : Cl P w K mg base 1 "_law_below" (sp_law_below K) []) (F : ∃ fd, FnT K "_law_pick" "_law_pick" s_law_pick [] (He.ga K "_law_pick") fd) : Cl P w K mg base 2 "_law_pick" (sp_law_pick K) [] := by
  refine cl_of F T.d_law_pick sc_law_pick (fun vs H Q E h => ?_) (fun _ _ _ _ _ _ us hl => match us, hl with | [_, _], _ => rfl) (fun cdv A outer s H vs Q E hr h => ?_)
  · unfold sp_law_pick at h
    repeat (first | (obtain ⟨rfl, _⟩ := h; rfl) | (obtain ⟨_, h⟩ := h))
  · have nd := sc_law_pick.nd
    exact ⟨_, (pss_one (ps_ret (pe_ix ix_list (pv 1) (pe_cl c_law_below hr (by omega) rfl passL (pa_cons (pv 0) (pa_cons (pe_callB call_len_seq rfl T.f_len (by decide +kernel) (pa_cons (pv 1) pa_nil)) pa_nil))) (fun _ _ => rfl)))), by with_unfolding_all exact pure_law_pick  vs H Q E h⟩
theorem ok_law_drawn (T : Tw K mg) (c_law_below : Cl P w K mg base 1 "_law_below" (sp_law_below K) []) (c_law_pick : Cl P w K mg base 2 "_law_pick" (sp_law_pick K) []) (F : ∃ fd, FnT K "_law_drawn" "_law_drawn" s_law_drawn [] (He.ga K "_law_drawn") fd) : Cl P w K mg base 3 "_law_drawn" (sp_law_drawn K) [] := by
  refine cl_of F T.d_law_drawn sc_law_drawn (fun vs H Q E h => ?_) (fun _ _ _ _ _ _ us hl => match us, hl with | [_], _ => rfl) (fun cdv A outer s H vs Q E hr h => ?_)
  · unfold sp_law_drawn at h
    repeat (first | (obtain ⟨rfl, _⟩ := h; rfl) | (obtain ⟨_, h⟩ := h))
  · have nd := sc_law_drawn.nd
    exact ⟨_, (pss_cons (ps_set (i := 1) nd rfl (Or.inl rfl) (pe_lst pa_nil))
      (pss_cons (ps_for ownsE rfl (pi_range1 rfl T.f_range (pa_cons (pe_op op_add pe_int (pe_cl c_law_below hr (by omega) rfl passL (pa_cons (pv 0) (pa_cons pe_int pa_nil)))) pa_nil)) (pg_name (i := 2) nd rfl (Or.inl rfl))
      (pss_one (ps_expr (pe_bm PySem.F.plainAttrs_list PySem.F.slot_list_append PySem.F.type_list_append mt_append (pv 1) (pa_cons (pe_tup (pa_cons (pe_cl c_law_pick hr (by omega) rfl passL (pa_cons (pv 0) (pa_cons (pe_lst (pa_cons pe_str (pa_cons pe_str (pa_cons pe_str pa_nil)))) pa_nil))) (pa_cons (pe_op op_add pe_int (pe_cl c_law_below hr (by omega) rfl passL (pa_cons (pv 0) (pa_cons pe_int pa_nil)))) pa_nil))) pa_nil)))))
      (pss_one (ps_ret (pe_tup (pa_cons (pe_callTy call_tuple_of rfl T.f_tuple (by decide +kernel) (pa_cons (pv 1) pa_nil)) (pa_cons (pe_op op_add pe_int (pe_cl c_law_below hr (by omega) rfl passL (pa_cons (pv 0) (pa_cons pe_int pa_nil)))) pa_nil))))))), by with_unfolding_all exact pure_law_drawn  vs H Q E h⟩
theorem ok_is_between (T : Tw K mg)  (F : ∃ fd, FnT K "is_between" "is_between" s_is_between [] (He.ga K "is_between") fd) : Cl P w K mg base 1 "is_between" (sp_is_between K) [] := by
  refine cl_of F T.d_is_between sc_is_between (fun vs H Q E h => ?_) (fun _ _ _ _ _ _ us hl => match us, hl with | [_, _, _], _ => rfl) (fun cdv A outer s H vs Q E hr h => ?_)
  · unfold sp_is_between at h
    repeat (first | (obtain ⟨rfl, _⟩ := h; rfl) | (obtain ⟨_, h⟩ := h))
  · have nd := sc_is_between.nd
    exact ⟨_, (pss_one (ps_ret (pe_and (pe_callB call_isi rfl T.f_isinstance (by decide +kernel) (pa_cons (pv 0) (pa_cons (pe_bltn (v := .ty "int") (u := .type "int") rfl T.f_int (by decide +kernel) rfl) pa_nil))) (pe_and (pe_not (pe_callB call_isi rfl T.f_isinstance (by decide +kernel) (pa_cons (pv 0) (pa_cons (pe_bltn (v := .ty "bool") (u := .type "bool") rfl T.f_bool (by decide +kernel) rfl) pa_nil)))) (pe_one (pe_chain op_le op_le (pv 1) (pv 0) (pv 2))))))), by with_unfolding_all exact pure_is_between  vs H Q E h⟩
theorem ok_is_verse (T : Tw K mg) (c_is_between : Cl P w K mg base 1 "is_between" (sp_is_between K) []) (F : ∃ fd, FnT K "is_verse" "is_verse" s_is_verse [] (He.ga K "is_verse") fd) : Cl P w K mg base 2 "is_verse" (sp_is_verse K) [] := by
  refine cl_of F T.d_is_verse sc_is_verse (fun vs H Q E h => ?_) (fun _ _ _ _ _ _ us hl => match us, hl with | [_], _ => rfl) (fun cdv A outer s H vs Q E hr h => ?_)
  · unfold sp_is_verse at h
    repeat (first | (obtain ⟨rfl, _⟩ := h; rfl) | (obtain ⟨_, h⟩ := h))
  · have nd := sc_is_verse.nd
    exact ⟨_, (pss_cons (ps_if (PW.pt (pw_or (pt_not (pt_val (pe_callB call_isi rfl T.f_isinstance (by decide +kernel) (pa_cons (pv 0) (pa_cons (pe_bltn (v := .ty "tuple") (u := .type "tuple") rfl T.f_tuple (by decide +kernel) rfl) pa_nil))))) (pw_or (pt_cmpR op_ne (pe_callB call_len_seq rfl T.f_len (by decide +kernel) (pa_cons (pv 0) pa_nil)) pe_int (nomark _)) (pw_or1 (pt_not (pt_val (pe_callB call_isi rfl T.f_isinstance (by decide +kernel) (pa_cons (pe_ix ix_tup (pv 0) pe_int (fun _ _ => rfl)) (pa_cons (pe_bltn (v := .ty "str") (u := .type "str") rfl T.f_str (by decide +kernel) rfl) pa_nil))))))))) (pss_one (ps_ret pe_bl)) pss_nil)
      (pss_one (ps_ret (pe_and (pe_cmpR op_in_seq (pe_ix ix_tup (pv 0) pe_int (fun _ _ => rfl)) (pe_tup (pa_cons (C8.pe_gc rfl T.k_ON) (pa_cons (C8.pe_gc rfl T.k_BACK) pa_nil))) (by rfl)) (pe_one (pe_cl c_is_between hr (by omega) rfl passL (pa_cons (pe_ix ix_tup (pv 0) pe_int (fun _ _ => rfl)) (pa_cons pe_int (pa_cons (C8.pe_gc rfl T.k_MOST_COUNT) pa_nil))))))))), by with_unfolding_all exact pure_is_verse  vs H Q E h⟩
theorem ok_Rhymeu_inituR (T : Tw K mg) (c_is_verse : Cl P w K mg base 2 "is_verse" (sp_is_verse K) []) (c_is_between : Cl P w K mg base 1 "is_between" (sp_is_between K) []) (c_sBadVerses : XsK P w K mg base 1 "BadVerses" "index") (F : ∃ fd, FnT K "__init__" "Rhyme.__init__" s_Rhymeu_initu [] (He.ma K (He.ga K "Rhyme") "__init__") fd) : Ck P w K mg base 3 "Rhyme" (He.ga K "Rhyme") (sp_Rhymeu_inituR K) := by
  refine ck_of (He.mkr_ok T.mk_Rhyme) F T.g_Rhyme sc_Rhymeu_inituR (fun vs H Q E h => ?_) (fun _ _ _ _ _ _ us hl => match us, hl with | [_, _, _], _ => rfl) (fun cdv A outer s H vs Q E hr h => ?_)
  · unfold sp_Rhymeu_inituR at h
    repeat (first | (obtain ⟨rfl, _⟩ := h; rfl) | (obtain ⟨_, h⟩ := h))
  · have nd := sc_Rhymeu_inituR.nd
    exact ⟨_, (pss_cons (ps_if (PW.pt (pw_or (pt_not (pt_val (pe_callB call_isi rfl T.f_isinstance (by decide +kernel) (pa_cons (pv 1) (pa_cons (pe_bltn (v := .ty "tuple") (u := .type "tuple") rfl T.f_tuple (by decide +kernel) rfl) pa_nil))))) (pw_or1 (pt_not (pt_chain op_le op_le pe_int (pe_callB call_len_seq rfl T.f_len (by decide +kernel) (pa_cons (pv 1) pa_nil)) (C8.pe_gc rfl T.k_MOST_VERSES)))))) (pss_one (ps_raise rfl takesE (pmk_fld c_sBadVerses hr (by omega) rfl passF (pa_cons (pe_un un_neg pe_int) pa_nil)))) pss_nil)
      (pss_cons (ps_for ownsE rfl (pi_enumT rfl T.f_enumerate (pa_cons (pv 1) pa_nil)) (pg_tup rfl (pgs_cons (pg_name (i := 3) nd rfl (Or.inl rfl)) (pgs_cons (pg_name (i := 4) nd rfl (Or.inl rfl)) pgs_nil)))
      (pss_one (ps_if (pt_not (pt_val (pe_cl c_is_verse hr (by omega) rfl passE (pa_cons (pv 4) pa_nil)))) (pss_one (ps_raise rfl takesE (pmk_fld c_sBadVerses hr (by omega) rfl passF (pa_cons (pv 3) pa_nil)))) pss_nil)))
      (pss_cons (ps_if (pt_not (pt_val (pe_cl c_is_between hr (by omega) rfl passE (pa_cons (pv 2) (pa_cons pe_int (pa_cons (C8.pe_gc rfl T.k_MOST_LEFT) pa_nil)))))) (pss_one (ps_raise rfl takesE (pmk_own0 T.x_BadLeft rfl))) pss_nil)
      (pss_cons (ps_fld (pv 0) (pv 1) rfl)
      (pss_cons (ps_fld (pv 0) (pv 2) rfl)
      (pss_one (ps_fld (pv 0) (pe_callTy call_tuple_of rfl T.f_tuple (by decide +kernel) (pa_cons (pe_lc (own := [("way", 5), ("count", 6)]) (g := (gTup K 2 (gCons (gName 5) (gCons (gName 6) gNil)))) (tt := tYes) (te := (tIf (tTest (tOp rEq (tVar 5) (tC (.str "on")))) (tVar 6) (tOp oSub (tC (.int 1)) (tVar 6)))) rfl nd (pi_tup (pv 1)) (blkOk_by (N := ["self", "verses", "left", "index", "verse", "way", "count"]) (sc := defScope s_Rhymeu_initu) (by decide +kernel)) (fun _ _ _ _ _ => (pg_tup rfl (pgs_cons (pg_name (i := 5) nd rfl (Or.inl rfl)) (pgs_cons (pg_name (i := 6) nd rfl (Or.inl rfl)) pgs_nil)))) (fun _ _ _ _ _ => pts_nil) (fun _ _ _ _ _ => (pe_ifExp (pt_cmpR op_eq (pv 5) (C8.pe_gc rfl T.k_ON) (nomark _)) (pv 6) (pe_op op_sub pe_int (pv 6))))) pa_nil)) rfl))))))), by with_unfolding_all exact pure_Rhymeu_inituR T.rh vs H Q E h⟩
theorem ok_law_made (T : Tw K mg) (c_Rhymeu_inituR : Ck P w K mg base 3 "Rhyme" (He.ga K "Rhyme") (sp_Rhymeu_inituR K)) (F : ∃ fd, FnT K "_law_made" "_law_made" s_law_made [] (He.ga K "_law_made") fd) : Cl P w K mg base 5 "_law_made" (sp_law_made K) [] := by
  refine cl_of F T.d_law_made sc_law_made (fun vs H Q E h => ?_) (fun _ _ _ _ _ _ us hl => match us, hl with | [_], _ => rfl) (fun cdv A outer s H vs Q E hr h => ?_)
  · unfold sp_law_made at h
    repeat (first | (obtain ⟨rfl, _⟩ := h; rfl) | (obtain ⟨_, h⟩ := h))
  · have nd := sc_law_made.nd
    have c_Rhymeu_initu := c_Rhymeu_inituR.weak init_weak
    exact ⟨_, (pss_one (ps_ret (pe_mkc c_Rhymeu_initu hr (by omega) rfl passL (pa_cons (pe_ix ix_tup (pv 0) pe_int (fun _ _ => rfl)) (pa_cons (pe_ix ix_tup (pv 0) pe_int (fun _ _ => rfl)) pa_nil))))), by with_unfolding_all exact pure_law_made  vs H Q E h⟩
theorem ok_law_equal0 (T : Tw K mg) (F : ∃ fd, FnT K "_law_equal" "_law_equal" s_law_equal [] (He.ga K "_law_equal") fd) : ∀ n, Cl P w K mg base n "_law_equal" (sp_law_equal n K) []
  | 0 => cl_none (ps := ["_law_actual", "_law_expected"]) F T.d_law_equal (fun vs H Q E h => by
    unfold sp_law_equal at h
    exact h) (fun _ _ _ _ _ _ us hl => match us, hl with | [_, _], _ => rfl)
  | n + 1 => by
    have c_law_equal := ok_law_equal0 T F n
    refine cl_of F T.d_law_equal sc_law_equal (fun vs H Q E h => ?_) (fun _ _ _ _ _ _ us hl => match us, hl with | [_, _], _ => rfl) (fun cdv A outer s H vs Q E hr h => ?_)
    · unfold sp_law_equal at h
      obtain ⟨x, y, d, e, rfl, _⟩ := h
      rfl
    · have nd := sc_law_equal.nd
      exact ⟨_, (pss_cons (ps_if (pt_cmpR op_isN (pv 1) pe_non (nomark _)) (pss_one (ps_ret (pe_cmpR op_isN (pv 0) pe_non (nomark _)))) pss_nil)
      (pss_cons (ps_if (pt_val (pe_callB call_isi rfl T.f_isinstance (by decide +kernel) (pa_cons (pv 1) (pa_cons (pe_bltn (v := .ty "bool") (u := .type "bool") rfl T.f_bool (by decide +kernel) rfl) pa_nil)))) (pss_one (ps_ret (pe_and (pe_callB call_isi rfl T.f_isinstance (by decide +kernel) (pa_cons (pv 0) (pa_cons (pe_bltn (v := .ty "bool") (u := .type "bool") rfl T.f_bool (by decide +kernel) rfl) pa_nil))) (pe_one (pe_cmpR op_eq (pv 0) (pv 1) (nomark _)))))) pss_nil)
      (pss_cons (ps_if (pt_val (pe_callB call_isi rfl T.f_isinstance (by decide +kernel) (pa_cons (pv 1) (pa_cons (pe_bltn (v := .ty "int") (u := .type "int") rfl T.f_int (by decide +kernel) rfl) pa_nil)))) (pss_one (ps_ret (pe_and (pe_callB call_isi rfl T.f_isinstance (by decide +kernel) (pa_cons (pv 0) (pa_cons (pe_bltn (v := .ty "int") (u := .type "int") rfl T.f_int (by decide +kernel) rfl) pa_nil))) (pe_and (pe_not (pe_callB call_isi rfl T.f_isinstance (by decide +kernel) (pa_cons (pv 0) (pa_cons (pe_bltn (v := .ty "bool") (u := .type "bool") rfl T.f_bool (by decide +kernel) rfl) pa_nil)))) (pe_one (pe_cmpR op_eq (pv 0) (pv 1) (nomark _))))))) pss_nil)
      (pss_cons (ps_if (pt_val (pe_callB call_isi rfl T.f_isinstance (by decide +kernel) (pa_cons (pv 1) (pa_cons (pe_bltn (v := .ty "str") (u := .type "str") rfl T.f_str (by decide +kernel) rfl) pa_nil)))) (pss_one (ps_ret (pe_and (pe_callB call_isi rfl T.f_isinstance (by decide +kernel) (pa_cons (pv 0) (pa_cons (pe_bltn (v := .ty "str") (u := .type "str") rfl T.f_str (by decide +kernel) rfl) pa_nil))) (pe_one (pe_cmpR op_eq (pv 0) (pv 1) (nomark _)))))) pss_nil)
      (pss_cons (ps_if (pt_val (pe_callB call_isi rfl T.f_isinstance (by decide +kernel) (pa_cons (pv 1) (pa_cons (pe_bltn (v := .ty "dict") (u := .type "dict") rfl T.f_dict (by decide +kernel) rfl) pa_nil)))) (pss_cons (ps_if (PW.pt (pw_or (pt_not (pt_val (pe_callB call_isi rfl T.f_isinstance (by decide +kernel) (pa_cons (pv 0) (pa_cons (pe_bltn (v := .ty "dict") (u := .type "dict") rfl T.f_dict (by decide +kernel) rfl) pa_nil))))) (pw_or1 (pt_cmpR op_ne (pe_callTy call_list_of rfl T.f_list (by decide +kernel) (pa_cons (pv 0) pa_nil)) (pe_callB cr_sorted rfl T.f_sorted (by decide +kernel) (pa_cons (pe_callTy call_list_of rfl T.f_list (by decide +kernel) (pa_cons (pv 1) pa_nil)) pa_nil)) (nomark _))))) (pss_one (ps_ret pe_bl)) pss_nil)
      (pss_one (ps_ret (pe_callB (cr_all rfl) rfl T.f_all (by decide +kernel) (pa_cons (pe_lc (own := [("_law_key", 2)]) (g := (gName 2)) (tt := tYes) (te := (tCall (sp_law_equal n K) [] E0 (tCons (tOp (rIxL K) (tVar 0) (tVar 2)) (tCons (tOp (rIxL K) (tVar 1) (tVar 2)) tNil)))) rfl nd (pi_list (pe_callTy call_list_of rfl T.f_list (by decide +kernel) (pa_cons (pv 0) pa_nil))) (blkOk_by (N := ["_law_actual", "_law_expected", "_law_key", "_law_k"]) (sc := defScope s_law_equal) (by decide +kernel)) (fun _ _ _ _ _ => (pg_name (i := 2) nd rfl (Or.inl rfl))) (fun _ _ _ _ _ => pts_nil) (fun _ _ _ _ _ => (pe_cl c_law_equal hr (by omega) rfl passL (pa_cons (pe_ix ix_list (pv 0) (pv 2) (fun _ _ => rfl)) (pa_cons (pe_ix ix_list (pv 1) (pv 2) (fun _ _ => rfl)) pa_nil))))) pa_nil))))) pss_nil)
      (pss_cons (ps_if (pt_cmpR op_ne (pe_callB call_isi rfl T.f_isinstance (by decide +kernel) (pa_cons (pv 1) (pa_cons (pe_bltn (v := .ty "tuple") (u := .type "tuple") rfl T.f_tuple (by decide +kernel) rfl) pa_nil))) (pe_callB call_isi rfl T.f_isinstance (by decide +kernel) (pa_cons (pv 0) (pa_cons (pe_bltn (v := .ty "tuple") (u := .type "tuple") rfl T.f_tuple (by decide +kernel) rfl) pa_nil))) (nomark _)) (pss_one (ps_ret pe_bl)) pss_nil)
      (pss_cons (ps_if (pt_cmpR op_ne (pe_callB call_isi rfl T.f_isinstance (by decide +kernel) (pa_cons (pv 1) (pa_cons (pe_bltn (v := .ty "list") (u := .type "list") rfl T.f_list (by decide +kernel) rfl) pa_nil))) (pe_callB call_isi rfl T.f_isinstance (by decide +kernel) (pa_cons (pv 0) (pa_cons (pe_bltn (v := .ty "list") (u := .type "list") rfl T.f_list (by decide +kernel) rfl) pa_nil))) (nomark _)) (pss_one (ps_ret pe_bl)) pss_nil)
      (pss_cons (ps_if (pt_cmpR op_ne (pe_callB call_len_seq rfl T.f_len (by decide +kernel) (pa_cons (pv 0) pa_nil)) (pe_callB call_len_seq rfl T.f_len (by decide +kernel) (pa_cons (pv 1) pa_nil)) (nomark _)) (pss_one (ps_ret pe_bl)) pss_nil)
      (pss_one (ps_ret (pe_callB (cr_all rfl) rfl T.f_all (by decide +kernel) (pa_cons (pe_lc (own := [("_law_k", 3)]) (g := (gName 3)) (tt := tYes) (te := (tCall (sp_law_equal n K) [] E0 (tCons (tOp (rIxA K) (tVar 0) (tVar 3)) (tCons (tOp (rIxA K) (tVar 1) (tVar 3)) tNil)))) rfl nd (pi_range1 rfl T.f_range (pa_cons (pe_callB call_len_seq rfl T.f_len (by decide +kernel) (pa_cons (pv 1) pa_nil)) pa_nil)) (blkOk_by (N := ["_law_actual", "_law_expected", "_law_key", "_law_k"]) (sc := defScope s_law_equal) (by decide +kernel)) (fun _ _ _ _ _ => (pg_name (i := 3) nd rfl (Or.inl rfl))) (fun _ _ _ _ _ => pts_nil) (fun _ _ _ _ _ => (pe_cl c_law_equal hr (by omega) rfl passL (pa_cons (pe_ix ix_any (pv 0) (pv 3) (fun _ _ => rfl)) (pa_cons (pe_ix ix_any (pv 1) (pv 3) (fun _ _ => rfl)) pa_nil))))) pa_nil)))))))))))), by with_unfolding_all exact pure_law_equal vs h⟩
theorem ok_law_equal (T : Tw K mg) (F : ∃ fd, FnT K "_law_equal" "_law_equal" s_law_equal [] (He.ga K "_law_equal") fd) : Cl P w K mg base 4 "_law_equal" (sp_law_equal 4 K) [] := ok_law_equal0 T F 4
theorem ok_Rhyme_turned (T : Tw K mg) (c_Rhymeu_inituR : Ck P w K mg base 3 "Rhyme" (He.ga K "Rhyme") (sp_Rhymeu_inituR K)) (F : ∃ fd, FnT K "turned" "Rhyme.turned" s_Rhyme_turned [] (He.ma K (He.ga K "Rhyme") "turned") fd) : Cm P w K mg base 5 (He.ga K "Rhyme") "turned" (sp_Rhyme_turned K) := by
  refine cm_of T.rh.cl (He.meth_ok T.mt_Rhyme_turned) F sc_Rhyme_turned (fun vs H Q E h => ?_) (fun _ _ _ _ _ _ us hl => match us, hl with | [_], _ => rfl) (fun cdv A outer s H vs Q E hr h => ?_)
  · unfold sp_Rhyme_turned at h
    repeat (first | (obtain ⟨rfl, _⟩ := h; rfl) | (obtain ⟨_, h⟩ := h))
  · have nd := sc_Rhyme_turned.nd
    have c_Rhymeu_initu := c_Rhymeu_inituR.weak init_weak
    exact ⟨_, (pss_one (ps_ret (pe_mkc c_Rhymeu_initu hr (by omega) rfl passL (pa_cons (pe_op op_catA (pe_slice sl_tupA (pe_fld (pv 0) rfl) (po_some (pe_un un_neg pe_int)) po_none) (pe_slice sl_tupA (pe_fld (pv 0) rfl) po_none (po_some (pe_un un_neg pe_int)))) (pa_cons (pe_fld (pv 0) rfl) pa_nil))))), by with_unfolding_all exact pure_Rhyme_turned T.rh vs H Q E h⟩
theorem ok_law_toldB (T : Tw K mg) (c_Rhymeu_inituR : Ck P w K mg base 3 "Rhyme" (He.ga K "Rhyme") (sp_Rhymeu_inituR K)) (F : ∃ fd, FnT K "_law_told" "_law_told" s_law_told [] (He.ga K "_law_told") fd) : Cl P w K mg base 5 "_law_told" (sp_law_toldB K) [] := by
  refine cl_of F T.d_law_toldB sc_law_toldB (fun vs H Q E h => ?_) (fun _ _ _ _ _ _ us hl => match us, hl with | [_, _], _ => rfl) (fun cdv A outer s H vs Q E hr h => ?_)
  · unfold sp_law_toldB at h
    repeat (first | (obtain ⟨rfl, _⟩ := h; rfl) | (obtain ⟨_, h⟩ := h))
  · have nd := sc_law_toldB.nd
    exact ⟨_, (pss_cons (ps_set (i := 2) nd rfl (Or.inl rfl) pe_non)
      (pss_cons (ps_try_mix rfl rfl takesE (fun W pn xe tk hpo => (pss_one (ps_expr (pe_mkcS c_Rhymeu_inituR hr (by omega) rfl (passMk tk) (pa_cons (pv 0) (pa_cons (pv 1) pa_nil)))))) (HdsMix.consN nd (i := 3) rfl rfl ⟨rfl, by decide, .inl T.g_BadVerses⟩ (fun a oe cls d pn hz hv => (pss_one (ps_set (i := 2) nd rfl (Or.inl rfl) (pe_xf T.s_BadVerses.xf T.s_BadVerses.no hz hv (pv 3))))) (HdsMix.cons ⟨rfl, by decide, .inl T.g_BadLeft⟩ (fun a oe cls d pn hz hv => (pss_one (ps_set (i := 2) nd rfl (Or.inl rfl) pe_str))) HdsMix.nil)))
      (pss_one (ps_ret (pv 2))))), by with_unfolding_all exact pure_law_toldB T.tx vs H Q E h⟩
theorem ok_Rhymeu_equB (T : Tw K mg)  (F : ∃ fd, FnT K "__eq__" "Rhyme.__eq__" s_Rhymeu_equ [] (He.ma K (He.ga K "Rhyme") "__eq__") fd) : Cm P w K mg base 1 (He.ga K "Rhyme") "__eq__" (sp_Rhymeu_equB K) := by
  refine cm_of T.rh.cl (He.meth_ok T.mt_Rhyme_uequ) F sc_Rhymeu_equB (fun vs H Q E h => ?_) (fun _ _ _ _ _ _ us hl => match us, hl with | [_, _], _ => rfl) (fun cdv A outer s H vs Q E hr h => ?_)
  · unfold sp_Rhymeu_equB at h
    repeat (first | (obtain ⟨rfl, _⟩ := h; rfl) | (obtain ⟨_, h⟩ := h))
  · have nd := sc_Rhymeu_equB.nd
    exact ⟨_, (pss_one (ps_ret (pe_and (pe_callB call_isi rfl T.f_isinstance (by decide +kernel) (pa_cons (pv 1) (pa_cons (C8.pe_gc (v := .ref (He.ga K "Rhyme")) rfl ⟨_, T.g_Rhyme, rfl⟩) pa_nil))) (pe_and (pe_cmpR (op_eqD hr.units) (pe_fld (pv 0) rfl) (pe_fld (pv 1) rfl) (nomark _)) (pe_one (pe_cmpR op_eq (pe_fld (pv 0) rfl) (pe_fld (pv 1) rfl) (nomark _))))))), by with_unfolding_all exact pure_Rhymeu_equB T.rh T.ins vs H Q E h⟩
theorem okf_law {fd : FuncData} (T : Tw K mg) (c_law_random : Cl P w K mg base 1 "_law_random" (sp_law_random K) []) (c_law_drawn : Cl P w K mg base 3 "_law_drawn" (sp_law_drawn K) []) (c_law_made : Cl P w K mg base 5 "_law_made" (sp_law_made K) []) (c_law_equal : Cl P w K mg base 4 "_law_equal" (sp_law_equal 4 K) []) (c_Rhyme_turned : Cm P w K mg base 5 (He.ga K "Rhyme") "turned" (sp_Rhyme_turned K)) (c_Rhymeu_inituR : Ck P w K mg base 3 "Rhyme" (He.ga K "Rhyme") (sp_Rhymeu_inituR K)) (c_law_pick : Cl P w K mg base 2 "_law_pick" (sp_law_pick K) []) (c_law_below : Cl P w K mg base 1 "_law_below" (sp_law_below K) []) (c_law_toldB : Cl P w K mg base 5 "_law_told" (sp_law_toldB K) []) (c_Rhymeu_equB : Cm P w K mg base 1 (He.ga K "Rhyme") "__eq__" (sp_Rhymeu_equB K)) (c_pr_left : Cp P w K mg base 1 (He.ga K "Rhyme") "left" (getSp (He.ga K "Rhyme") "own_left")) (c_pr_verses : Cp P w K mg base 1 (He.ga K "Rhyme") "verses" (getSp (He.ga K "Rhyme") "own_verses")) (F : FnT K "law" "law" s_law [] (He.ga K "law") fd) : FnOk P w K mg base (L2.CX P w) 6 (He.ga K "law") fd ["_law_script"] (sp_law K) := by
  refine F.ok sc_law (fun vs H Q E h => ?_) (fun cdv A outer s H vs Q E hr h => ?_)
  · unfold sp_law at h
    repeat (first | (obtain ⟨rfl, _⟩ := h; rfl) | (obtain ⟨_, h⟩ := h))
  · have nd := sc_law.nd
    have c_Rhymeu_initu := c_Rhymeu_inituR.weak init_weak
    have c_Rhymeu_equ := c_Rhymeu_equB.weak equ_weak
    exact ⟨_, (pss_cons (ps_set (i := 1) nd rfl (Or.inl rfl) (pe_cl c_law_random hr (by omega) rfl passL (pa_cons (pv 0) (pa_cons pe_int pa_nil))))
      (pss_cons (ps_set (i := 2) nd rfl (Or.inl rfl) (pe_cl c_law_drawn hr (by omega) rfl passL (pa_cons (pv 1) pa_nil)))
      (pss_cons (ps_set (i := 3) nd rfl (Or.inl rfl) (pe_cl c_law_drawn hr (by omega) rfl passL (pa_cons (pv 1) pa_nil)))
      (pss_cons (ps_set (i := 4) nd rfl (Or.inl rfl) (pe_cl c_law_made hr (by omega) rfl passL (pa_cons (pv 2) pa_nil)))
      (pss_cons (ps_if (PW.pt (pw_or (pt_not (pt_val (pe_cl c_law_equal hr (by omega) rfl passL (pa_cons (pe_lst (pa_cons (pe_pr c_pr_verses hr (by omega) (pv 4)) (pa_cons (pe_pr c_pr_left hr (by omega) (pv 4)) pa_nil))) (pa_cons (pe_callTy call_list_of rfl T.f_list (by decide +kernel) (pa_cons (pv 2) pa_nil)) pa_nil))))) (pw_or (pt_not (pt_cmpR (op_eqI c_Rhymeu_equ hr (by decide) passL) (pv 4) (pe_cl c_law_made hr (by omega) rfl passL (pa_cons (pv 2) pa_nil)) (nomark _))) (pw_or1 (pt_cmpR (op_eqIT c_Rhymeu_equB hr (by omega) passL) (pv 4) (pe_ix ix_tup (pv 2) pe_int (fun _ _ => rfl)) (nomark _)))))) (pss_one (ps_ret pe_bl)) pss_nil)
      (pss_cons (ps_if (PW.pt (pw_or (pt_cmpR (op_neD hr.units) (pe_cmpR (op_eqI c_Rhymeu_equ hr (by decide) passL) (pv 4) (pe_cl c_law_made hr (by omega) rfl passL (pa_cons (pv 3) pa_nil)) (nomark _)) (pe_cmpR (op_eqD hr.units) (pv 2) (pv 3) (nomark _)) (nomark _)) (pw_or1 (pt_not (pt_cmpR (op_eqI c_Rhymeu_equ hr (by decide) passL) (pe_mt0 c_Rhyme_turned hr (by omega) passL (pv 4)) (pe_mkc c_Rhymeu_initu hr (by omega) rfl passL (pa_cons (pe_op op_catA (pe_slice sl_tupA (pe_ix ix_tup (pv 2) pe_int (fun _ _ => rfl)) (po_some (pe_un un_neg pe_int)) po_none) (pe_slice sl_tupA (pe_ix ix_tup (pv 2) pe_int (fun _ _ => rfl)) po_none (po_some (pe_un un_neg pe_int)))) (pa_cons (pe_ix ix_tup (pv 2) pe_int (fun _ _ => rfl)) pa_nil))) (nomark _)))))) (pss_one (ps_ret pe_bl)) pss_nil)
      (pss_cons (ps_set (i := 5) nd rfl (Or.inl rfl) (pe_lst (pa_cons pe_non (pa_cons (pe_tup (pa_cons pe_str pa_nil)) (pa_cons (pe_tup (pa_cons pe_str (pa_cons pe_int pa_nil))) (pa_cons (pe_tup (pa_cons pe_str (pa_cons pe_int pa_nil))) (pa_cons (pe_tup (pa_cons pe_str (pa_cons pe_bl pa_nil))) (pa_cons (pe_tup (pa_cons pe_str (pa_cons pe_int pa_nil))) (pa_cons (pe_lst (pa_cons pe_str (pa_cons pe_int pa_nil))) (pa_cons pe_str (pa_cons (pe_tup (pa_cons pe_int (pa_cons pe_str pa_nil))) (pa_cons (pe_tup (pa_cons pe_str (pa_cons pe_str pa_nil))) pa_nil))))))))))))
      (pss_cons (ps_set (i := 5) nd rfl (Or.inl rfl) (pe_cl c_law_pick hr (by omega) rfl passL (pa_cons (pv 1) (pa_cons (pe_op op_cat (pv 5) (pe_lst (pa_cons (pe_tup (pa_cons pe_str (pa_cons pe_int (pa_cons pe_int pa_nil)))) (pa_cons (pe_tup (pa_cons pe_non (pa_cons pe_int pa_nil))) (pa_cons (pe_tup pa_nil) (pa_cons pe_int (pa_cons (pe_tup (pa_cons pe_str (pa_cons (pe_un un_neg pe_int) pa_nil))) (pa_cons (pe_tup (pa_cons pe_str (pa_cons pe_non pa_nil))) pa_nil)))))))) pa_nil))))
      (pss_cons (ps_set (i := 6) nd rfl (Or.inl rfl) (pe_cl c_law_pick hr (by omega) rfl passL (pa_cons (pv 1) (pa_cons (pe_lst (pa_cons pe_int (pa_cons pe_int (pa_cons pe_bl (pa_cons pe_non (pa_cons pe_str (pa_cons (pe_tup (pa_cons pe_int pa_nil)) (pa_cons (pe_un un_neg pe_int) pa_nil)))))))) pa_nil))))
      (pss_cons (ps_set (i := 7) nd rfl (Or.inl rfl) (pe_cl c_law_below hr (by omega) rfl passL (pa_cons (pv 1) (pa_cons (pe_op op_add (pe_callB call_len_seq rfl T.f_len (by decide +kernel) (pa_cons (pe_ix ix_tup (pv 2) pe_int (fun _ _ => rfl)) pa_nil)) pe_int) pa_nil))))
      (pss_cons (ps_set (i := 8) nd rfl (Or.inl rfl) (pe_slice sl_tupA (pe_ix ix_tup (pv 2) pe_int (fun _ _ => rfl)) po_none (po_some pe_int)))
      (pss_cons (ps_set (i := 7) nd rfl (Or.inl rfl) (pe_callB (cr_min rfl) rfl T.f_min (by decide +kernel) (pa_cons (pe_lst (pa_cons (pv 7) (pa_cons (pe_callB call_len_seq rfl T.f_len (by decide +kernel) (pa_cons (pv 8) pa_nil)) pa_nil))) pa_nil)))
      (pss_cons (ps_if (PW.pt (pw_or (pt_cmpR op_ne (pe_cl c_law_toldB hr (by omega) rfl passL (pa_cons (pe_op op_catA (pe_op op_catA (pe_slice sl_tupA (pv 8) po_none (po_some (pv 7))) (pe_tup (pa_cons (pv 5) pa_nil))) (pe_slice sl_tupA (pv 8) (po_some (pv 7)) po_none)) (pa_cons (pv 6) pa_nil))) (pv 7) (nomark _)) (pw_or1 (pt_cmpR op_ne (pe_cl c_law_toldB hr (by omega) rfl passL (pa_cons (pe_op op_catA (pe_slice sl_tupA (pv 8) po_none (po_some (pv 7))) (pe_tup (pa_cons (pv 5) pa_nil))) (pa_cons (pe_ix ix_tup (pv 2) pe_int (fun _ _ => rfl)) pa_nil))) (pv 7) (nomark _))))) (pss_one (ps_ret pe_bl)) pss_nil)
      (pss_cons (ps_set (i := 9) nd rfl (Or.inl rfl) (pe_cl c_law_pick hr (by omega) rfl passL (pa_cons (pv 1) (pa_cons (pe_lst (pa_cons (pe_tup pa_nil) (pa_cons pe_non (pa_cons (pe_callTy call_list_of rfl T.f_list (by decide +kernel) (pa_cons (pe_ix ix_tup (pv 2) pe_int (fun _ _ => rfl)) pa_nil)) (pa_cons pe_str (pa_cons (pe_op op_repT (pe_ix ix_tup (pv 2) pe_int (fun _ _ => rfl)) pe_int) (pa_cons pe_dnewK (pa_cons (pe_op op_repT (pe_tup (pa_cons (pe_tup (pa_cons pe_str (pa_cons pe_int pa_nil))) pa_nil)) pe_int) (pa_cons pe_int pa_nil))))))))) pa_nil))))
      (pss_one (ps_ret (pe_and (pe_cmpR op_eq (pe_cl c_law_toldB hr (by omega) rfl passL (pa_cons (pv 9) (pa_cons (pv 6) pa_nil))) (pe_un un_neg pe_int) (nomark _)) (pe_one (pe_cmpR op_eq (pe_cl c_law_toldB hr (by omega) rfl passL (pa_cons (pe_ix ix_tup (pv 2) pe_int (fun _ _ => rfl)) (pa_cons (pv 6) pa_nil))) pe_str (nomark _)))))))))))))))))))), by with_unfolding_all exact pure_law T.tk T.ts vs H Q E h⟩
end
end Z
namespace Z
open PySem PySem.Spec PyProof.Rows L2
def fn : List He.DefD := [
  ⟨("_law_random", none), "_law_random", "_law_random", defArgs s_law_random, defBody s_law_random, defScope s_law_random, [], []⟩,
  ⟨("_law_below", none), "_law_below", "_law_below", defArgs s_law_below, defBody s_law_below, defScope s_law_below, [], []⟩,
  ⟨("_law_pick", none), "_law_pick", "_law_pick", defArgs s_law_pick, defBody s_law_pick, defScope s_law_pick, [], []⟩,
  ⟨("_law_drawn", none), "_law_drawn", "_law_drawn", defArgs s_law_drawn, defBody s_law_drawn, defScope s_law_drawn, [], []⟩,
  ⟨("is_between", none), "is_between", "is_between", defArgs s_is_between, defBody s_is_between, defScope s_is_between, [], []⟩,
  ⟨("is_verse", none), "is_verse", "is_verse", defArgs s_is_verse, defBody s_is_verse, defScope s_is_verse, [], []⟩,
  ⟨("Rhyme", some "__init__"), "__init__", "Rhyme.__init__", defArgs s_Rhymeu_initu, defBody s_Rhymeu_initu, defScope s_Rhymeu_initu, [], []⟩,
  ⟨("_law_made", none), "_law_made", "_law_made", defArgs s_law_made, defBody s_law_made, defScope s_law_made, [], []⟩,
  ⟨("_law_equal", none), "_law_equal", "_law_equal", defArgs s_law_equal, defBody s_law_equal, defScope s_law_equal, [], []⟩,
  ⟨("Rhyme", some "turned"), "turned", "Rhyme.turned", defArgs s_Rhyme_turned, defBody s_Rhyme_turned, defScope s_Rhyme_turned, [], []⟩,
  ⟨("_law_told", none), "_law_told", "_law_told", defArgs s_law_told, defBody s_law_told, defScope s_law_told, [], []⟩,
  ⟨("Rhyme", some "__eq__"), "__eq__", "Rhyme.__eq__", defArgs s_Rhymeu_equ, defBody s_Rhymeu_equ, defScope s_Rhymeu_equ, [], []⟩,
  ⟨("law", none), "law", "law", defArgs s_law, defBody s_law, defScope s_law, [], []⟩]
def fa0 : List He.Fa := [.str "BACK" "back", .int "MOST_COUNT" 6, .int "MOST_LEFT" 3, .int "MOST_VERSES" 4, .str "ON" "on", .exc "BadLeft", .glo "BadLeft", .free "abs", .free "all", .free "bool", .free "dict", .free "enumerate", .free "int", .free "isinstance", .free "len", .free "list", .free "min", .free "range", .free "sorted", .free "str", .free "super", .free "tuple", .glo "BadVerses", .glo "Rhyme", .glo "_law_random", .glo "_law_below", .glo "_law_pick", .glo "_law_drawn", .glo "is_between", .glo "is_verse"]
def fa1 : List He.Fa := [.glo "_law_made", .glo "_law_equal", .glo "_law_told", .glo "law", .cls "Rhyme", .noat "Rhyme" "own_verses", .noat "Rhyme" "own_left", .noat "Rhyme" "rises", .mkr "Rhyme", .meth "Rhyme" "__eq__", .meth "Rhyme" "turned", .exm "BadVerses" "BadVerses" true, .exm "BadLeft" "BadVerses" false, .exm "BadLeft" "BadLeft" true]
def fa : List He.Fa := fa0 ++ fa1
def pd : List PropD := [d_Rhyme_left, d_Rhyme_verses]
def sd : List SupD := [d_BadVersesu_initu]
def exB (K : PySem.W.Frag) : Bool := insB K "Rhyme" && (supB K "/claim/cut.py" d_BadVersesu_initu && (propB K d_Rhyme_left && (propB K d_Rhyme_verses && (decide (PySem.W.kitOne K (.type "tuple") (.ref (He.ga K "Rhyme")) = some false) && decide (PySem.W.subIn K (.type "tuple") (.ref (He.ga K "Rhyme")) = some false)))))
def loose0 : List PySem.Str := ["__name__", "RhymeError", "BadVerses", "BadLeft", "__name__", "ON", "BACK", "MOST_COUNT", "MOST_VERSES", "MOST_LEFT", "is_between", "is_verse", "Rhyme", "__name__", "_law_random", "_law_below", "_law_pick", "_law_equal", "_law_drawn", "_law_made", "_law_told"]
def loose : List PySem.Str := loose0
abbrev R : PySem.W.OpenRow := PySem.W.OpenLaw.row PySem.Challenge.rw_outrhymes_k08_rhymes_kept_and_refused
abbrev hk : PySem.W.Hook := hookP 6 fa fn sd pd exB
def ob (s : PySem.W.SharedT) : AlP := obsP 6 fa fn sd pd exB (HandSHeadRun.getT s)
theorem ob_eq (s : PySem.W.SharedT) : ob s = hk.obs s.abs := obsP_eq (HandSHeadRun.getT_eq s)
theorem run (w : World) : HandSHeadRun.RunEq R (PySem.W.view R.prog [21]) hk ob 4000 loose w := by
  intro os
  kernel_rfl
theorem tw_of {K : PySem.W.Frag} {h : Heap} {mg : Str → Option Value} (X : K.In h) (G : h.Ns mainGlobals mg) (c : He.SaysD fa fn K) (e : exB K = true) (cs : ∀ (i : Nat) (d : SupD), sd[i]? = some d → fnS K d.cls = d.val) (ps : ∀ (i : Nat) (d : PropD), pd[i]? = some d → fnP K d.cls d.nm = d.val) : Tw K mg := by
  have gl : ∀ {x : Str}, He.Fa.glo x ∈ fa → mg x = some (.ref (He.ga K x)) := fun hx => He.glo_ok X G (c.facts hx)
  have fr : ∀ {x : Str}, He.Fa.free x ∈ fa → mg x = none := fun hx => He.free_ok X G (c.facts hx)
  have it : ∀ {x : Str} {i : Int}, He.Fa.int x i ∈ fa → ∃ u, mg x = some u ∧ RelV (.int i) u := fun hx => by
    obtain ⟨t, e⟩ := He.int_ok X G (c.facts hx)
    exact ⟨_, e, t, rfl⟩
  have sr : ∀ {x z : Str}, He.Fa.str x z ∈ fa → ∃ u, mg x = some u ∧ RelV (.str z) u := fun hx => by
    obtain ⟨t, e⟩ := He.str_ok X G (c.facts hx)
    exact ⟨_, e, t, rfl⟩
  have xc : ∀ {x : Str}, He.Fa.exc x ∈ fa → He.Fa.glo x ∈ fa → XcK K mg x := fun hx hg => by
    obtain ⟨a1, a2, a3, a4⟩ := He.exc_ok (c.facts hx)
    exact ⟨a1, a2, a3, a4, gl hg⟩
  have gc : ∀ {x : Str}, He.Fa.glo x ∈ fa → ∃ u, mg x = some u ∧ RelV (.ref (He.ga K x)) u := fun hx => ⟨_, gl hx, rfl⟩
  obtain ⟨e1, e⟩ := He.ba e
  obtain ⟨e2, e⟩ := He.ba e
  obtain ⟨e3, e⟩ := He.ba e
  obtain ⟨e4, e⟩ := He.ba e
  obtain ⟨e5, e6⟩ := He.ba e

  exact {
    k_BACK := sr (by simp [fa, fa0, fa1])
    k_MOST_COUNT := it (by simp [fa, fa0, fa1])
    k_MOST_LEFT := it (by simp [fa, fa0, fa1])
    k_MOST_VERSES := it (by simp [fa, fa0, fa1])
    k_ON := sr (by simp [fa, fa0, fa1])
    x_BadLeft := xc (by simp [fa, fa0, fa1]) (by simp [fa, fa0, fa1])
    f_abs := fr (by simp [fa, fa0, fa1])
    f_all := fr (by simp [fa, fa0, fa1])
    f_bool := fr (by simp [fa, fa0, fa1])
    f_dict := fr (by simp [fa, fa0, fa1])
    f_enumerate := fr (by simp [fa, fa0, fa1])
    f_int := fr (by simp [fa, fa0, fa1])
    f_isinstance := fr (by simp [fa, fa0, fa1])
    f_len := fr (by simp [fa, fa0, fa1])
    f_list := fr (by simp [fa, fa0, fa1])
    f_min := fr (by simp [fa, fa0, fa1])
    f_range := fr (by simp [fa, fa0, fa1])
    f_sorted := fr (by simp [fa, fa0, fa1])
    f_str := fr (by simp [fa, fa0, fa1])
    f_super := fr (by simp [fa, fa0, fa1])
    f_tuple := fr (by simp [fa, fa0, fa1])
    g_BadLeft := gl (by simp [fa, fa0, fa1])
    g_BadVerses := gl (by simp [fa, fa0, fa1])
    g_Rhyme := gl (by simp [fa, fa0, fa1])
    d_law_random := gl (by simp [fa, fa0, fa1])
    d_law_below := gl (by simp [fa, fa0, fa1])
    d_law_pick := gl (by simp [fa, fa0, fa1])
    d_law_drawn := gl (by simp [fa, fa0, fa1])
    d_is_between := gl (by simp [fa, fa0, fa1])
    d_is_verse := gl (by simp [fa, fa0, fa1])
    d_law_made := gl (by simp [fa, fa0, fa1])
    d_law_equal := gl (by simp [fa, fa0, fa1])
    d_law_toldB := gl (by simp [fa, fa0, fa1])
    d_law := gl (by simp [fa, fa0, fa1])
    rh := ⟨He.cls_ok (c.facts (by simp [fa, fa0, fa1])), He.noat_ok (c.facts (by simp [fa, fa0, fa1])), He.noat_ok (c.facts (by simp [fa, fa0, fa1])), He.noat_ok (c.facts (by simp [fa, fa0, fa1]))⟩
    ins := insB_ok e1
    mk_Rhyme := c.facts (by simp [fa, fa0, fa1])
    mt_Rhyme_uequ := c.facts (by simp [fa, fa0, fa1])
    mt_Rhyme_turned := c.facts (by simp [fa, fa0, fa1])
    tx := ⟨He.exm_ok (c.facts (by simp [fa, fa0, fa1])), He.exm_ok (c.facts (by simp [fa, fa0, fa1])), He.exm_ok (c.facts (by simp [fa, fa0, fa1]))⟩
    tk := of_decide_eq_true e5
    ts := of_decide_eq_true e6
    p_left := propF_of (ps 0 _ rfl) e3
    p_verses := propF_of (ps 1 _ rfl) e4
    s_BadVerses := supF_of (cs 0 _ rfl) e2 }
theorem facts_of {P : Program} {w : World} {K : PySem.W.Frag} {h : Heap} {mg : Str → Option Value} {f : Addr} (X : K.In h) (G : h.Ns mainGlobals mg) (hfa : mg ("law" : Str) = some (.ref f)) (c : He.SaysD fa fn K) (e : exB K = true) (cs : ∀ (i : Nat) (d : SupD), sd[i]? = some d → fnS K d.cls = d.val) (ps : ∀ (i : Nat) (d : PropD), pd[i]? = some d → fnP K d.cls d.nm = d.val) (hfile : ((P.main.file : Str) == "/claim/cut.py") = true) (htop : (P.main.scope.names.lookup ("super" : Str)).isSome = false) :
    ∃ fd : FuncData, (∀ (s : Shared) (v : Value), BindsTo s fd ⟨[v], []⟩ [("_law_script", v)]) ∧ ∀ base : Heap, K.In base → base.Ns mainGlobals mg → FnOk P w K mg base (L2.CX P w) 6 f fd ["_law_script"] (sp_law K) := by
  have T : Tw K mg := tw_of X G c e cs ps
  have ef := hfa.symm.trans T.d_law
  cases ef
  have F_law_random := c.def_ 0 (d := ⟨("_law_random", none), "_law_random", "_law_random", defArgs s_law_random, defBody s_law_random, defScope s_law_random, [], []⟩) rfl
  have F_law_below := c.def_ 1 (d := ⟨("_law_below", none), "_law_below", "_law_below", defArgs s_law_below, defBody s_law_below, defScope s_law_below, [], []⟩) rfl
  have F_law_pick := c.def_ 2 (d := ⟨("_law_pick", none), "_law_pick", "_law_pick", defArgs s_law_pick, defBody s_law_pick, defScope s_law_pick, [], []⟩) rfl
  have F_law_drawn := c.def_ 3 (d := ⟨("_law_drawn", none), "_law_drawn", "_law_drawn", defArgs s_law_drawn, defBody s_law_drawn, defScope s_law_drawn, [], []⟩) rfl
  have F_is_between := c.def_ 4 (d := ⟨("is_between", none), "is_between", "is_between", defArgs s_is_between, defBody s_is_between, defScope s_is_between, [], []⟩) rfl
  have F_is_verse := c.def_ 5 (d := ⟨("is_verse", none), "is_verse", "is_verse", defArgs s_is_verse, defBody s_is_verse, defScope s_is_verse, [], []⟩) rfl
  have F_Rhymeu_inituR := c.def_ 6 (d := ⟨("Rhyme", some "__init__"), "__init__", "Rhyme.__init__", defArgs s_Rhymeu_initu, defBody s_Rhymeu_initu, defScope s_Rhymeu_initu, [], []⟩) rfl
  have F_law_made := c.def_ 7 (d := ⟨("_law_made", none), "_law_made", "_law_made", defArgs s_law_made, defBody s_law_made, defScope s_law_made, [], []⟩) rfl
  have F_law_equal := c.def_ 8 (d := ⟨("_law_equal", none), "_law_equal", "_law_equal", defArgs s_law_equal, defBody s_law_equal, defScope s_law_equal, [], []⟩) rfl
  have F_Rhyme_turned := c.def_ 9 (d := ⟨("Rhyme", some "turned"), "turned", "Rhyme.turned", defArgs s_Rhyme_turned, defBody s_Rhyme_turned, defScope s_Rhyme_turned, [], []⟩) rfl
  have F_law_toldB := c.def_ 10 (d := ⟨("_law_told", none), "_law_told", "_law_told", defArgs s_law_told, defBody s_law_told, defScope s_law_told, [], []⟩) rfl
  have F_Rhymeu_equB := c.def_ 11 (d := ⟨("Rhyme", some "__eq__"), "__eq__", "Rhyme.__eq__", defArgs s_Rhymeu_equ, defBody s_Rhymeu_equ, defScope s_Rhymeu_equ, [], []⟩) rfl
  have F_law := c.def_ 12 (d := ⟨("law", none), "law", "law", defArgs s_law, defBody s_law, defScope s_law, [], []⟩) rfl
  obtain ⟨fd, F⟩ := F_law
  have b := FunD.bindsA (ps := ["_law_script"]) F fun _ _ _ _ _ _ us hl => match us, hl with | [_], _ => rfl
  refine ⟨fd, fun s v => b s [v] rfl, fun base _ _ => ?_⟩
  have c_sBadVerses : XsK P w K mg base 1 "BadVerses" "index" := oks_BadVerses T hfile htop
  have c_pr_left : Cp P w K mg base 1 (He.ga K "Rhyme") "left" (getSp (He.ga K "Rhyme") "own_left") := okp_left T
  have c_pr_verses : Cp P w K mg base 1 (He.ga K "Rhyme") "verses" (getSp (He.ga K "Rhyme") "own_verses") := okp_verses T
  have c_law_random : Cl P w K mg base 1 "_law_random" (sp_law_random K) [] := ok_law_random T  F_law_random
  have c_law_below : Cl P w K mg base 1 "_law_below" (sp_law_below K) [] := ok_law_below T  F_law_below
  have c_law_pick : Cl P w K mg base 2 "_law_pick" (sp_law_pick K) [] := ok_law_pick T c_law_below F_law_pick
  have c_law_drawn : Cl P w K mg base 3 "_law_drawn" (sp_law_drawn K) [] := ok_law_drawn T c_law_below c_law_pick F_law_drawn
  have c_is_between : Cl P w K mg base 1 "is_between" (sp_is_between K) [] := ok_is_between T  F_is_between
  have c_is_verse : Cl P w K mg base 2 "is_verse" (sp_is_verse K) [] := ok_is_verse T c_is_between F_is_verse
  have c_Rhymeu_inituR : Ck P w K mg base 3 "Rhyme" (He.ga K "Rhyme") (sp_Rhymeu_inituR K) := ok_Rhymeu_inituR T c_is_verse c_is_between c_sBadVerses F_Rhymeu_inituR
  have c_law_made : Cl P w K mg base 5 "_law_made" (sp_law_made K) [] := ok_law_made T c_Rhymeu_inituR F_law_made
  have c_law_equal : Cl P w K mg base 4 "_law_equal" (sp_law_equal 4 K) [] := ok_law_equal T  F_law_equal
  have c_Rhyme_turned : Cm P w K mg base 5 (He.ga K "Rhyme") "turned" (sp_Rhyme_turned K) := ok_Rhyme_turned T c_Rhymeu_inituR F_Rhyme_turned
  have c_law_toldB : Cl P w K mg base 5 "_law_told" (sp_law_toldB K) [] := ok_law_toldB T c_Rhymeu_inituR F_law_toldB
  have c_Rhymeu_equB : Cm P w K mg base 1 (He.ga K "Rhyme") "__eq__" (sp_Rhymeu_equB K) := ok_Rhymeu_equB T  F_Rhymeu_equB
  exact okf_law T c_law_random c_law_drawn c_law_made c_law_equal c_Rhyme_turned c_Rhymeu_inituR c_law_pick c_law_below c_law_toldB c_Rhymeu_equB c_pr_left c_pr_verses F
end Z
open PySem PySem.W PySem.Calls PyProof.Rows
theorem PySem.Challenge.cw_outrhymes_k08_rhymes_kept_and_refused_holds : PySem.Challenge.rw_outrhymes_k08_rhymes_kept_and_refused.Holds := by
  w_on; o_law
  refine HandSHeadRun.head_any (r := OpenLaw.row PySem.Challenge.rw_outrhymes_k08_rhymes_kept_and_refused) (q := view (OpenLaw.row PySem.Challenge.rw_outrhymes_k08_rhymes_kept_and_refused).prog [21]) (H := Z.hk) (ob := Z.ob) (M := 4000) (loose := Z.loose) (d := HandSHeadRun.topDef (OpenLaw.row PySem.Challenge.rw_outrhymes_k08_rhymes_kept_and_refused).prog 21) (kwd := []) Z.ob_eq
    (by kernel_rfl) (fun s => by kernel_rfl) Z.run (by kernel_rfl) (by kernel_rfl) (by kernel_rfl) (by rfl) (by first | assumption | decide +kernel) (by decide +kernel) ⟨rfl, rfl, rfl, rfl, rfl, by decide +kernel⟩ ?hw ?hc
  case hw => w_witness2
  case hc =>
    refine Z.walk_ofW (CW := fun w => L2.CX (PySem.Challenge.rw_outrhymes_k08_rhymes_kept_and_refused).prog w) (ll := PySem.Challenge.rw_outrhymes_k08_rhymes_kept_and_refused) (mm := 63) (lv := 6) (arg := "_law_script") rfl (by decide) (by kernel_rfl) (by exact ⟨rfl, by decide, by decide⟩) ?F ?CX
    case CX => exact fun w H s e s' z => Z.noout z
    case F =>
      intro w mg fa h Y G hmg0
      obtain ⟨K, KX, c0⟩ := Y
      have c := c0.c
      have hmg : mg ("law" : PySem.Str) = some (.ref fa) := by
        have e : (HandSHeadRun.topDef (OpenLaw.row PySem.Challenge.rw_outrhymes_k08_rhymes_kept_and_refused).prog 21).name = ("law" : PySem.Str) := by kernel_rfl
        rw [← e]
        exact hmg0
      obtain ⟨fd, hb, hF⟩ := Z.facts_of (P := (PySem.Challenge.rw_outrhymes_k08_rhymes_kept_and_refused).prog) (w := w) KX G hmg c.t.d c.more (fun i d h => c.sup i h) (fun i d h => c0.prop i h) (by kernel_rfl) (by kernel_rfl)
      exact ⟨K, fd, Z.sp_law K, KX, hb, fun H a ns hl hS => Z.law_pre a ns hS hl, hF⟩
