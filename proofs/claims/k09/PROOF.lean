import PyProof.Rows.All
import Wide.All
import OpenK.AllK
import Wide.FinOn
import HandS.ForMost
import HandS.Exc
import HandS.ExcOwn
import HandS.WordsExc
import HandS.TryOnly
import HandS.TryMany
import HandS.IsInst
import HandS.Defaults
import HandS.Codes
import HandS.TupAny
import HandS.TupMul
import HandS.FStr
import HandS.CallSlots
import HandS.Wide
import HandS.Property
import HandS.Small
import HandS.Style
import HandS.Conv
import HandS.Deep
import HandS.HeadHook2
import HandS.Walk
import KE.GoesEnum
import KE.GoesMore
import HandS.OwnEq
import HandS.Text
import HandS.Head0
import HandS.Head1
import HandS.Head2
import HandS.HeadEnd
import HandS.HeadHook1
import KE.KStateDown
import HandS.Ends
import HandS.More
import HandS.Words
import HandS.HeadHook3
import HandS.HeadHook4
import PySem.Challenge.RW_outrhymes_k09_texts_there_and_back
set_option Elab.async false
set_option linter.all false
set_option maxRecDepth 100000
set_option maxHeartbeats 0
/-! Readings' short names; calls by what is known of a def (Cl), of a class (Ck), of a method (Cm). -/
namespace Z
open PySem PySem.Spec PyProof.Rows L2
abbrev oAdd : R2 := rI0 fun i j => .int (i + j)
abbrev oSub : R2 := rI0 fun i j => .int (i - j)
abbrev oMul : R2 := rI CMul fun i j => .int (i * j)
abbrev oMulW : R2 := rI CMulW fun i j => .int (i * j)
abbrev oFdv : R2 := rI CDiv fun i j => .int (i / j)
abbrev oFdvW : R2 := rI CDivW fun i j => .int (i / j)
abbrev oMod : R2 := rI (fun _ j => 0 < j) fun i j => .int (i % j)
abbrev oPow : R2 := rI CPow fun i j => .int (i ^ j.toNat)
abbrev oLt : R2 := rI0 fun i j => .bl (decide (i < j))
abbrev oLe : R2 := rI0 fun i j => .bl (decide (i ≤ j))
abbrev oGt : R2 := rI0 fun i j => .bl (decide (j < i))
abbrev oGe : R2 := rI0 fun i j => .bl (decide (j ≤ i))
abbrev oIsN : R2 := fun x y H Q => y = .non ∧ Q (.bl (decide (x = .non))) H
abbrev oNotN : R2 := fun x y H Q => y = .non ∧ Q (.bl (!decide (x = .non))) H
abbrev oAddS : R2 := fun x y H Q => ∃ i j, x = .str i ∧ y = .str j ∧ i.length + j.length ≤ sizeLine ∧ Q (.str (i ++ j)) H
abbrev oNeg : V → Hp → VK → Prop := rU fun i => .int (-i)
abbrev RL := List V → Hp → VK → Prop
def cLen (K : PySem.W.Frag) : RL := fun xs H Q => ∃ p ys, xs = [.ref p] ∧ (SqL K H p ys ∨ SqT K H p ys) ∧ Q (.int ys.length) H
def cLenS : RL := fun xs H Q => ∃ z, xs = [.str z] ∧ z.length ≤ sizeLine ∧ Q (.int z.length) H
def cInt : RL := fun xs H Q => (∃ i, xs = [.int i] ∧ Q (.int i) H) ∨ ∃ k, xs = [.bl k] ∧ Q (.int (if k then 1 else 0)) H
def cIntS : RL := fun xs H Q => ∃ a n, xs = [.str a] ∧ PySem.intText? a = some n ∧ a.length ≤ 640 ∧ Q (.int n) H
def cAbs : RL := fun xs H Q => ∃ i, xs = [.int i] ∧ Q (.int (if i < 0 then -i else i)) H
def cStr : RL := fun xs H Q => ∃ i, xs = [.int i] ∧ i.natAbs.log2 < 1920 ∧ Q (.str (toString i)) H
def cTup (K : PySem.W.Frag) : RL := fun xs H Q => ∃ p ys, xs = [.ref p] ∧ ((SqL K H p ys ∧ ∀ l, H l = none → Q (.ref l) (upd H l (.tup ys))) ∨ (SqT K H p ys ∧ Q (.ref p) H))
def cLst (K : PySem.W.Frag) : RL := fun xs H Q => ∃ p ys, xs = [.ref p] ∧ (SqL K H p ys ∨ SqT K H p ys) ∧ ∀ l, H l = none → Q (.ref l) (upd H l (.lst ys))
def mSplit : V → RL := fun x xs H Q => ∃ a b, x = .str a ∧ xs = [.str b] ∧ (b.length == 0) = false ∧ a.length + 2 ≤ sizeLine ∧ rNewStrs (Txt.split a b) H Q
def mJoin (K : PySem.W.Frag) : V → RL := fun x xs H Q => ∃ a p, ∃ ys : List Str, x = .str a ∧ xs = [.ref p] ∧ (SqL K H p (ys.map V.str) ∨ SqT K H p (ys.map V.str)) ∧ (ys.map (·.length)).sum + ys.length * a.length ≤ 16777216 ∧ Q (.str (Txt.join a ys)) H
def tJoined (ts : List TE) : TE := fun σ H Q => tJs ts Str.empty σ H fun out H1 => Q (.str out) H1

/-- all that was known stays -/
abbrev Ex (H H' : Hp) : Prop := ∀ b o, H b = some o → H' b = some o
theorem ex_refl (H : Hp) : Ex H H := fun _ _ h => h
theorem ex_trans {H H1 H2 : Hp} (a : Ex H H1) (b : Ex H1 H2) : Ex H H2 := fun x o h => b x o (a x o h)
theorem ex_new {H : Hp} {p : Addr} {o : HO} (h : H p = none) : Ex H (upd H p o) := fun a u e => by
  rw [upd_ne (ne_of_none e h)]
  exact e
theorem ex_mut {H H' : Hp} {p : Addr} {o : HO} (e : Ex H H') (h : H p = none) : Ex H (upd H' p o) := fun a u ha => by
  rw [upd_ne (ne_of_none ha h)]
  exact e a u ha
theorem ex_free {H H' : Hp} {p : Addr} (e : Ex H H') (h : H' p = none) : H p = none := by
  cases h1 : H p with
  | none => rfl
  | some o =>
    have h2 := e p o h1
    rw [h] at h2
    cases h2
/-- but for one place -/
abbrev Fx (d : Addr) (H H' : Hp) : Prop := ∀ b o, b ≠ d → H b = some o → H' b = some o
theorem fx_refl (d : Addr) (H : Hp) : Fx d H H := fun _ _ _ h => h
theorem fx_trans {d : Addr} {H H1 H2 : Hp} (a : Fx d H H1) (b : Fx d H1 H2) : Fx d H H2 := fun x o n h => b x o n (a x o n h)
theorem fx_ex {d : Addr} {H H' : Hp} (h : Ex H H') : Fx d H H' := fun b o _ e => h b o e
theorem ex_fx {d : Addr} {H0 H H' : Hp} (e : Ex H0 H) (n : H0 d = none) (f : Fx d H H') : Ex H0 H' := fun b o q => f b o (fun z => by subst z; rw [n] at q; cases q) (e b o q)
theorem fx_upd {d : Addr} {H : Hp} {o : HO} : Fx d H (upd H d o) := fun b u n e => by
  rw [upd_ne n]
  exact e
theorem sq_ex {K : PySem.W.Frag} {H H' : Hp} {a : Addr} {xs : List V} (e : Ex H H') (h : SqL K H a xs) : SqL K H' a xs := by
  rcases h with (h | ⟨o, h⟩) | h
  · exact .inl (.inl (e _ _ h))
  · exact .inl (.inr ⟨o, e _ _ h⟩)
  · exact .inr h
theorem sqt_ex {K : PySem.W.Frag} {H H' : Hp} {a : Addr} {xs : List V} (e : Ex H H') (h : SqT K H a xs) : SqT K H' a xs := by
  rcases h with (h | ⟨o, h⟩) | h
  · exact .inl (.inl (e _ _ h))
  · exact .inl (.inr ⟨o, e _ _ h⟩)
  · exact .inr h

theorem at0 {a : V} {l : List V} : atI (a :: l) 0 = some a := atI_nat (j := 0) rfl
theorem at1 {a b : V} {l : List V} : atI (a :: b :: l) 1 = some b := atI_nat (j := 1) rfl
theorem at2 {a b c : V} {l : List V} : atI (a :: b :: c :: l) 2 = some c := atI_nat (j := 2) rfl
theorem at3 {a b c d : V} {l : List V} : atI (a :: b :: c :: d :: l) 3 = some d := atI_nat (j := 3) rfl
theorem ix0 {n : Nat} : ixN (n + 1) 0 = some 0 := by
  unfold ixN
  rw [if_pos (by omega), if_pos (by omega)]
  rfl
theorem ix1 {n : Nat} : ixN (n + 1 + 1) 1 = some 1 := by
  unfold ixN
  rw [if_pos (by omega), if_pos (by omega)]
  rfl
theorem d_int (a b : Int) : decide (V.int a = V.int b) = decide (a = b) := by
  by_cases h : a = b
  · rw [decide_eq_true h, decide_eq_true (congrArg V.int h)]
  · rw [decide_eq_false h, decide_eq_false fun z => h (V.int.inj z)]
theorem d_str (a b : Str) : decide (V.str a = V.str b) = decide (a = b) := by
  by_cases h : a = b
  · rw [decide_eq_true h, decide_eq_true (congrArg V.str h)]
  · rw [decide_eq_false h, decide_eq_false fun z => h (V.str.inj z)]
theorem v_int {a b : Int} (h : decide (V.int a = V.int b) = true) : a = b := V.int.inj (of_decide_eq_true h)
theorem v_int' {a b : Int} (h : decide (V.int a = V.int b) = false) : a ≠ b := fun z => of_decide_eq_false h (congrArg V.int z)
theorem iteT' {c : Bool} {A B : Prop} (h : c = true) (k : A) : if c = true then A else B := by
  rw [if_pos h]
  exact k
theorem iteF' {c : Bool} {A B : Prop} (h : c = false) (k : B) : if c = true then A else B := by
  rw [h, if_neg Bool.false_ne_true]
  exact k
/-- an if whose test has the answer b and makes nothing | may make things -/
theorem if_go {c : TT} {t u : TS} {D : Ends} {σ : L2.St} {H : Hp} (b : Bool) (h : ∀ Q : Bool → Hp → Prop, Q b H → c σ H Q) (ht : b = true → t D σ H) (hf : b = false → u D σ H) : tIfS c t u D σ H := by
  refine h _ ?_
  cases b with
  | true => exact iteT (ht rfl)
  | false => exact iteF (hf rfl)
theorem if_goH {c : TT} {t u : TS} {D : Ends} {σ : L2.St} {H : Hp} (b : Bool) (h : ∀ Q : Bool → Hp → Prop, (∀ H', Ex H H' → Q b H') → c σ H Q) (ht : ∀ H', Ex H H' → b = true → t D σ H') (hf : ∀ H', Ex H H' → b = false → u D σ H') : tIfS c t u D σ H := by
  refine h _ fun H' e => ?_
  cases b with
  | true => exact iteT (ht H' e rfl)
  | false => exact iteF (hf H' e rfl)
/-- a and b, where a's answer is known -/
theorem and_go {t u : TT} {σ : L2.St} {H : Hp} {Q : Bool → Hp → Prop} (a b : Bool) (h : ∀ Q : Bool → Hp → Prop, Q a H → t σ H Q) (hu : a = true → ∀ Q : Bool → Hp → Prop, Q b H → u σ H Q) (q : Q (a && b) H) : tAnd t u σ H Q := by
  refine h _ ?_
  cases a with
  | true => exact iteT (hu rfl Q q)
  | false => exact iteF q
theorem or_go {t u : TT} {σ : L2.St} {H : Hp} {Q : Bool → Hp → Prop} (a b : Bool) (h : ∀ Q : Bool → Hp → Prop, Q a H → t σ H Q) (hu : a = false → ∀ Q : Bool → Hp → Prop, Q b H → u σ H Q) (q : Q (a || b) H) : tOr t u σ H Q := by
  refine h _ ?_
  cases a with
  | true => exact iteT q
  | false => exact iteF (hu rfl Q q)
theorem andV_go {ta tb : TE} {σ : L2.St} {H : Hp} {Q : VK} (a b : Bool) (h : ∀ Q : VK, Q (.bl a) H → ta σ H Q) (hu : a = true → ∀ Q : VK, Q (.bl b) H → tb σ H Q) (q : Q (.bl (a && b)) H) : tAndV ta tb σ H Q := by
  refine h _ ⟨a, rfl, ?_⟩
  cases a with
  | true => exact iteT (hu rfl Q q)
  | false => exact iteF q
theorem orV_go {ta tb : TE} {σ : L2.St} {H : Hp} {Q : VK} (a b : Bool) (h : ∀ Q : VK, Q (.bl a) H → ta σ H Q) (hu : a = false → ∀ Q : VK, Q (.bl b) H → tb σ H Q) (q : Q (.bl (a || b)) H) : tOrV ta tb σ H Q := by
  refine h _ ⟨a, rfl, ?_⟩
  cases a with
  | true => exact iteT q
  | false => exact iteF (hu rfl Q q)
/-- a def that is called by its name, with these defaults -/
structure Cl (P : Program) (w : World) (K : PySem.W.Frag) (mg : Str → Option Value) (base : Heap) (k : Nat) (x : Str) (sp : Sp) (dvs : List V) : Prop where
  ex : ∃ (f : Addr) (fd : FuncData) (ps : List Str) (ds : List Value), FnOk P w K mg base (L2.CX P w) k f fd ps sp ∧ mg x = some (.ref f) ∧ PySem.W.keepIn K (.ref f) = true ∧ Binds K fd ps ds ∧ Vals dvs ds
/-- a method of the class at C -/
structure Cm (P : Program) (w : World) (K : PySem.W.Frag) (mg : Str → Option Value) (base : Heap) (k : Nat) (C : Addr) (m : Str) (sp : Sp) : Prop where
  ex : ∃ (f : Addr) (fd : FuncData) (ps : List Str), Cls K C ∧ Meth K C m f ∧ FnOk P w K mg base (L2.CX P w) k f fd ps sp ∧ Binds K fd ps []
/-- a class that is made by its name -/
structure Ck (P : Program) (w : World) (K : PySem.W.Frag) (mg : Str → Option Value) (base : Heap) (k : Nat) (x : Str) (C : Addr) (sp : Sp) : Prop where
  ex : ∃ (f : Addr) (fd : FuncData) (ps : List Str), Mk K C f ∧ FnOk P w K mg base (L2.CX P w) k f fd ps sp ∧ mg x = some (.ref C) ∧ Binds K fd ps []
section
variable {X : Cx} {k j : Nat} {C : Addr} {x m : Str} {sp : Sp} {dvs : List V} {p pos apos : Pos} {e o : Expr} {es : List Expr} {ta : TE} {t : TA} {E : XK}
theorem pe_cl (c : Cl X.prog X.w X.K X.mg X.base k x sp dvs) (hr : Room j X.A) (hk : k ≤ j) (hg : Gl X x) (hx : Passes (L2.CX X.prog X.w) X E) (ha : PA X (e :: es) t)
    (hdb : (x == ("__debug__" : Str)) = false := by decide) (he : starEach (e :: es) X.env = (false, eval e X.env) :: starEach es X.env := by rfl) (hpl : (backTo pos (starEach es X.env)).any (·.1) = false := by rfl) :
    PE X (.Call (.Name x p) (e :: es) [] pos) (tCall sp dvs E t) := by
  obtain ⟨f, fd, ps, ds, F, hm, kp, b, d⟩ := c.ex
  exact pe_call F (hr.mono hk) hg hm kp b d hx ha hdb he hpl
theorem pe_clS {W : L2.St → XK} (c : Cl X.prog X.w X.K X.mg X.base k x sp dvs) (hr : Room j X.A) (hk : k ≤ j) (hg : Gl X x) (hx : ∀ σ, PassesAt (L2.CX X.prog X.w) X σ (W σ)) (ha : PA X (e :: es) t)
    (hdb : (x == ("__debug__" : Str)) = false := by decide) (he : starEach (e :: es) X.env = (false, eval e X.env) :: starEach es X.env := by rfl) (hpl : (backTo pos (starEach es X.env)).any (·.1) = false := by rfl) :
    PE X (.Call (.Name x p) (e :: es) [] pos) (tCallSD sp dvs W t) := by
  obtain ⟨f, fd, ps, ds, F, hm, kp, b, d⟩ := c.ex
  exact pe_callSD F (hr.mono hk) hg hm kp b d hx ha hdb he hpl
theorem pe_mkc (c : Ck X.prog X.w X.K X.mg X.base k x C sp) (hr : Room j X.A) (hk : k + 1 ≤ j) (hg : Gl X x) (hx : Passes (L2.CX X.prog X.w) X E) (ha : PA X (e :: es) t)
    (hdb : (x == ("__debug__" : Str)) = false := by decide) (he : starEach (e :: es) X.env = (false, eval e X.env) :: starEach es X.env := by rfl) (hpl : (backTo pos (starEach es X.env)).any (·.1) = false := by rfl) :
    PE X (.Call (.Name x p) (e :: es) [] pos) (tMake C sp [] E t) := by
  obtain ⟨f, fd, ps, M, F, hm, b⟩ := c.ex
  exact pe_make M F (hr.mono hk) hg hm b .nil hx ha hdb he hpl
end
section
variable {P : Program} {w : World} {K : PySem.W.Frag} {mg : Str → Option Value} {base : Heap} {N : List Str} {qual : Str} {sc : Scope} {f : Addr} {cdv : Value} {A : Around} {outer : List Env} {s : Shared} {H : Hp} {E : XK}
theorem takesE : Takes (cxOf (L2.CX P w) P w K mg base N qual sc f cdv A outer s H E) (fun cls d _ H' => E cls d H') := L2.takes_of rfl rfl rfl rfl
theorem passE : Passes (L2.CX P w) (cxOf (L2.CX P w) P w K mg base N qual sc f cdv A outer s H E) E := L2.passes_call takesE (fun _ _ _ _ h => h)
theorem ownsE : PassesOwn (model P w) (cxOf (L2.CX P w) P w K mg base N qual sc f cdv A outer s H E).A (cxOf (L2.CX P w) P w K mg base N qual sc f cdv A outer s H E).env (cxOf (L2.CX P w) P w K mg base N qual sc f cdv A outer s H E).xe :=
  L2.passes_of rfl
/-- what the top leaves of a def: st its statement -/
abbrev FnT (K : PySem.W.Frag) (x qual : Str) (st : Stmt) (dvs : List V) (f : Addr) (fd : FuncData) : Prop := FunD K x qual (defArgs st) (defBody st) (defScope st) dvs [] f fd
theorem cl_of {x : Str} {st : Stmt} {ps : List Str} {k : Nat} {sp : Sp} (F : ∃ fd, FnT K x x st [] f fd) (hm : mg x = some (.ref f)) (S : FnScope N ps (defScope st)) (len : ∀ vs H Q E, sp vs H Q E → vs.length = ps.length)
    (hb : ∀ (kV doc pm : Value) (an : Option Addr) (cdv ct : Value) (us : List Value), us.length = ps.length → bindArgs (PySem.W.fnOf x x (defArgs st) (defBody st) (defScope st) .none kV doc pm an cdv ct) ⟨us, []⟩ = pure (ps.zip us))
    (body : ∀ (cdv : Value) (A : Around) (outer : List Env) (s : Shared) (H : Hp) (vs : List V) (Q : VK) (E : XK), Room k (A.deeper (envOfC x (defScope st) s.heap.objs.size f cdv)) → sp vs H Q E →
      ∃ t, PSs (cxOf (L2.CX P w) P w K mg base N x (defScope st) f cdv A outer s H E) (defBody st) t ∧ t { nx := fun _ H' => Q .non H', rt := Q } (start N vs) H) : Cl P w K mg base (k + 1) x sp [] := by
  obtain ⟨fd, F⟩ := F
  exact ⟨f, fd, ps, [], F.ok S len body, hm, F.kp, F.bindsN hb, .nil⟩
end
end Z
/-! Data on the heap, comprehensions that make nothing else, enumerate over a tuple. -/
namespace Z
open PySem PySem.Spec PyProof.Rows L2
/-! ### data -/
mutual
theorem dp_ex {K : PySem.W.Frag} {H H' : Hp} (e : Ex H H') : ∀ {v : V} {d : PyData}, Dp K H v d → Dp K H' v d
  | _, _, .non => .non
  | _, _, .bl b => .bl b
  | _, _, .int i => .int i
  | _, _, .str x => .str x
  | _, _, .lst h a => .lst (sq_ex e h) (dpa_ex e a)
  | _, _, .tup h a => .tup (sqt_ex e h) (dpa_ex e a)
theorem dpa_ex {K : PySem.W.Frag} {H H' : Hp} (e : Ex H H') : ∀ {v : List V} {d : List PyData}, DpAll K H v d → DpAll K H' v d
  | _, _, .nil => .nil
  | _, _, .cons h a => .cons (dp_ex e h) (dpa_ex e a)
end
/-- neither a tuple nor a locked one stands there -/
def NoT : Option HO → Prop
  | some (.tup _) => False
  | some (.frz _ _) => False
  | none => False
  | _ => True
/-- a tuple is still there where one other thing alone has changed -/
theorem sqt_fxN {K : PySem.W.Frag} {H H' : Hp} {a d : Addr} {xs : List V} (hd : NoT (H d)) (e : Fx d H H') (h : SqT K H a xs) : SqT K H' a xs := by
  rcases h with (h | ⟨o, h⟩) | h
  · exact .inl (.inl (e _ _ (fun z => by rw [← z, h] at hd; exact hd) h))
  · exact .inl (.inr ⟨o, e _ _ (fun z => by rw [← z, h] at hd; exact hd) h⟩)
  · exact .inr h
theorem noT_l {H : Hp} {d : Addr} {zs : List V} (h : H d = some (.lst zs)) : NoT (H d) := by
  rw [h]
  exact trivial
theorem noT_i {H : Hp} {d C dx : Addr} {fs : List (Str × V)} (h : H d = some (.ins C dx fs)) : NoT (H d) := by
  rw [h]
  exact trivial
mutual
/-- no list within -/
def flatD : PyData → Bool
  | .none => true
  | .bool _ => true
  | .int _ => true
  | .str _ => true
  | .list _ => false
  | .tuple ds => flatDs ds
  | .dict _ => false
def flatDs : List PyData → Bool
  | [] => true
  | d :: ds => flatD d && flatDs ds
end
mutual
theorem dp_fxN {K : PySem.W.Frag} {H H' : Hp} {l : Addr} (hl : NoT (H l)) (e : Fx l H H') : ∀ {v : V} {d : PyData}, flatD d = true → Dp K H v d → Dp K H' v d
  | _, _, _, .non => .non
  | _, _, _, .bl b => .bl b
  | _, _, _, .int i => .int i
  | _, _, _, .str x => .str x
  | _, .list _, f, .lst h a => nomatch f
  | _, .tuple ds, f, .tup h a => .tup (sqt_fxN hl e h) (dpa_fxN hl e (d := ds) f a)
theorem dpa_fxN {K : PySem.W.Frag} {H H' : Hp} {l : Addr} (hl : NoT (H l)) (e : Fx l H H') : ∀ {v : List V} {d : List PyData}, flatDs d = true → DpAll K H v d → DpAll K H' v d
  | _, _, _, .nil => .nil
  | _, d :: ds, f, .cons h a => .cons (dp_fxN hl e (Bool.and_eq_true_iff.mp (show (flatD d && flatDs ds) = true from f)).1 h) (dpa_fxN hl e (Bool.and_eq_true_iff.mp (show (flatD d && flatDs ds) = true from f)).2 a)
end
/-- the name of the class of data -/
def tyN : PyData → String
  | .none => "NoneType"
  | .bool _ => "bool"
  | .int _ => "int"
  | .str _ => "str"
  | .list _ => "list"
  | .tuple _ => "tuple"
  | .dict _ => "dict"
theorem dp_ty {K : PySem.W.Frag} {H : Hp} {v : V} {d : PyData} (h : Dp K H v d) : TyX K H v (.type (tyN d)) := by
  cases h with
  | non => exact .base .non
  | bl b => exact .base (.bl b)
  | int i => exact .base (.int i)
  | str x => exact .base (.str x)
  | lst h _ =>
    rcases h with (h | ⟨o, h⟩) | ⟨o, _, _, h, c, _⟩
    · exact .base (.lst h)
    · exact .base (.frz h)
    · exact .kList h c
  | tup h _ =>
    rcases h with (h | ⟨o, h⟩) | ⟨o, _, _, h, c, _⟩
    · exact .base (.tup h)
    · exact .fTuple h
    · exact .kTuple h c
theorem dpa_len {K : PySem.W.Frag} {H : Hp} : ∀ {vs : List V} {ds : List PyData}, DpAll K H vs ds → vs.length = ds.length
  | _, _, .nil => rfl
  | _, _, .cons _ a => congrArg (· + 1) (dpa_len a)
theorem dpa_get {K : PySem.W.Frag} {H : Hp} : ∀ {vs : List V} {ds : List PyData} {i : Nat} {d : PyData}, DpAll K H vs ds → ds[i]? = some d → ∃ v, vs[i]? = some v ∧ Dp K H v d
  | _, _, _, _, .nil, e => by simp at e
  | _, _, 0, _, .cons h a, e => ⟨_, rfl, by
    have e2 := Option.some.inj e
    rw [← e2]
    exact h⟩
  | _, _, i + 1, _, .cons h a, e => dpa_get (i := i) a e
theorem dpa_get' {K : PySem.W.Frag} {H : Hp} : ∀ {vs : List V} {ds : List PyData} {i : Nat} {v : V}, DpAll K H vs ds → vs[i]? = some v → ∃ d, ds[i]? = some d ∧ Dp K H v d
  | _, _, _, _, .nil, e => by simp at e
  | _, _, 0, _, .cons h a, e => ⟨_, rfl, by
    have e2 := Option.some.inj e
    rw [← e2]
    exact h⟩
  | _, _, i + 1, _, .cons h a, e => dpa_get' (i := i) a e
theorem dp_tup {K : PySem.W.Frag} {H : Hp} {v : V} {ds : List PyData} (h : Dp K H v (.tuple ds)) : ∃ a xs, v = .ref a ∧ SqT K H a xs ∧ DpAll K H xs ds := by
  cases h with
  | tup h a => exact ⟨_, _, rfl, h, a⟩
theorem dp_lst {K : PySem.W.Frag} {H : Hp} {v : V} {ds : List PyData} (h : Dp K H v (.list ds)) : ∃ a xs, v = .ref a ∧ SqL K H a xs ∧ DpAll K H xs ds := by
  cases h with
  | lst h a => exact ⟨_, _, rfl, h, a⟩
theorem dp_int {K : PySem.W.Frag} {H : Hp} {v : V} {i : Int} (h : Dp K H v (.int i)) : v = .int i := by
  cases h
  rfl
theorem dp_str {K : PySem.W.Frag} {H : Hp} {v : V} {x : Str} (h : Dp K H v (.str x)) : v = .str x := by
  cases h
  rfl
theorem dpa_snoc {K : PySem.W.Frag} {H : Hp} {v : V} {d : PyData} (h : Dp K H v d) : ∀ {vs : List V} {ds : List PyData}, DpAll K H vs ds → DpAll K H (vs ++ [v]) (ds ++ [d])
  | _, _, .nil => .cons h .nil
  | _, _, .cons g a => .cons g (dpa_snoc h a)
theorem dpa_ints {K : PySem.W.Frag} {H : Hp} : ∀ ns : List Int, DpAll K H (ns.map V.int) (ns.map PyData.int)
  | [] => .nil
  | n :: ns => .cons (.int n) (dpa_ints ns)
/-- isinstance of data with a built-in class -/
theorem isi_go {K : PySem.W.Frag} {H : Hp} {v : V} {d : PyData} {c : String} {b : Bool} {Q : VK} (h : Dp K H v d) (e : kitB (tyN d) c = some b) (q : Q (.bl b) H) : rIsi K [v, .ty c] H Q :=
  ⟨v, .ty c, _, _, b, rfl, .ty c, dp_ty h, kit_ty e, q⟩
/-- a list by its places -/
theorem map_range_get {α β : Type} (l : List α) (f : α → β) (d : α) {n : Nat} (hn : n = l.length) : (List.range n).map (fun i => f (l.getD i d)) = l.map f := by
  subst hn
  refine List.ext_getElem? fun i => ?_
  rw [List.getElem?_map, List.getElem?_map]
  by_cases h : i < l.length
  · rw [List.getElem?_range h, List.getElem?_eq_getElem h]
    show some (f (l.getD i d)) = some (f l[i])
    rw [List.getD_eq_getElem?_getD, List.getElem?_eq_getElem h]
    rfl
  · rw [List.getElem?_eq_none_iff.mpr (by rw [List.length_range]; omega), List.getElem?_eq_none_iff.mpr (by omega)]
    rfl
/-! ### comprehensions -/
section
variable {J : It} {n : Nat} {G : Hp → Prop} {Y : Nat → Hp → V → Hp → Prop}
/-- a comprehension whose test and element make nothing that lasts: p i, f i at the turn i -/
theorem lc_pure (w : Walk J n G Y) {g : TG} {tt : TT} {te : TE} {vs : List Nat} {σ : L2.St} {H1 : Hp} {D : Addr} {Qd : Hp → Prop} (p : Nat → Bool) (f : Nat → V) (hD : H1 D = none) (hn : n < sizeLine) (hG : ∀ H, Ex H1 H → G H)
    (hs : ∀ i x H H', i < n → Ex H1 H → Y i H x H' → ∀ (Q : VK) (Zf : Hp → Prop), (p i = true → ∀ H4, Ex H H4 → Q (f i) H4) → (p i = false → ∀ H4, Ex H H4 → Zf H4) →
      g x (wipe σ vs) H' fun σ2 H2 => wipe σ2 vs = wipe σ vs ∧ tt σ2 H2 fun b H3 => if b = true then te σ2 H3 Q else Zf H3)
    (hd : ∀ H, Ex H1 H → H D = some (.lst (((List.range n).filter p).map f)) → Qd H) :
    ∃ W : Nat → Nat → Hp → Prop, (∃ m, W 0 m (upd H1 D (.lst []))) ∧ ∀ i m H, W i m H →
      (J.stop i H ∧ Qd H) ∨ (J.go i H ∧ ∃ Nx : Hp → Prop, (∀ H', Nx H' → ∃ m', m' < m ∧ W (i + 1) m' H') ∧ ∀ x H', J.yld i H x H' → g x (wipe σ vs) H' fun σ2 H2 => wipe σ2 vs = wipe σ vs ∧ tt σ2 H2 fun b H3 =>
        if b = true then te σ2 H3 fun y H4 => ∃ acc, H4 D = some (.lst acc) ∧ acc.length < sizeLine ∧ Nx (upd H4 D (.lst (acc ++ [y]))) else Nx H3) := by
  refine lc_it w (fun i H => Ex H1 H ∧ H D = some (.lst (((List.range i).filter p).map f))) ⟨ex_new hD, upd_same⟩ (fun i H _ h => hG H h.1) (fun i x H H' hi ⟨e, hDi⟩ y => ?_) (fun H h => hd H h.1 h.2)
  refine hs i x H H' hi e y _ _ (fun hp H4 e4 => ⟨_, e4 D _ hDi, ?_, ex_mut (ex_trans e e4) hD, ?_⟩) (fun hp H4 e4 => ⟨ex_trans e e4, ?_⟩)
  · refine Nat.lt_of_le_of_lt ?_ hn
    rw [List.length_map]
    refine Nat.le_trans (List.length_filter_le ..) ?_
    rw [List.length_range]
    omega
  · rw [upd_same, List.range_succ, List.filter_append, List.map_append]
    simp [List.filter, hp]
  · rw [e4 D _ hDi, List.range_succ, List.filter_append, List.map_append]
    simp [List.filter, hp]
theorem filter_all {α : Type} (l : List α) : l.filter (fun _ => true) = l := by
  induction l with
  | nil => rfl
  | cons a l ih => rw [List.filter_cons_of_pos rfl, ih]
/-- without a test -/
theorem lc_map (w : Walk J n G Y) {g : TG} {te : TE} {vs : List Nat} {σ : L2.St} {H1 : Hp} {D : Addr} {Qd : Hp → Prop} (f : Nat → V) (hD : H1 D = none) (hn : n < sizeLine) (hG : ∀ H, Ex H1 H → G H)
    (hs : ∀ i x H H', i < n → Ex H1 H → Y i H x H' → ∀ (Q : VK) (Zf : Hp → Prop), (∀ H4, Ex H H4 → Q (f i) H4) →
      g x (wipe σ vs) H' fun σ2 H2 => wipe σ2 vs = wipe σ vs ∧ tYes σ2 H2 fun b H3 => if b = true then te σ2 H3 Q else Zf H3)
    (hd : ∀ H, Ex H1 H → H D = some (.lst ((List.range n).map f)) → Qd H) :
    ∃ W : Nat → Nat → Hp → Prop, (∃ m, W 0 m (upd H1 D (.lst []))) ∧ ∀ i m H, W i m H →
      (J.stop i H ∧ Qd H) ∨ (J.go i H ∧ ∃ Nx : Hp → Prop, (∀ H', Nx H' → ∃ m', m' < m ∧ W (i + 1) m' H') ∧ ∀ x H', J.yld i H x H' → g x (wipe σ vs) H' fun σ2 H2 => wipe σ2 vs = wipe σ vs ∧ tYes σ2 H2 fun b H3 =>
        if b = true then te σ2 H3 fun y H4 => ∃ acc, H4 D = some (.lst acc) ∧ acc.length < sizeLine ∧ Nx (upd H4 D (.lst (acc ++ [y]))) else Nx H3) :=
  lc_pure w (fun _ => true) f hD hn hG (fun i x H H' hi e y Q Zf h _ => hs i x H H' hi e y Q Zf (h rfl)) (fun H e h => hd H e (by rw [filter_all] at h; exact h))
end
end Z
namespace Z
open PySem PySem.Spec PyProof.Rows L2
/-! ### enumerate over a tuple -/
/-- the tuple's items with their places, each pair new -/
def IteT (K : PySem.W.Frag) (a : Addr) : It :=
  ⟨fun i H => ∃ (xs : List V) (x : V), SqT K H a xs ∧ xs[i]? = some x, fun i H v H' => ∃ T x, v = .ref T ∧ H T = none ∧ H' = upd H T (.tup [.int (i : Nat), x]) ∧ ∀ xs, SqT K H a xs → xs[i]? = some x,
    fun i H => ∃ xs : List V, SqT K H a xs ∧ xs.length = i⟩
theorem tupiter_ne {h : Heap} {it a : Addr} {i : Nat} {items : Array Value} (h1 : h.IsTupleIter it a i) (h2 : h.IsTuple a items) : a ≠ it := by
  intro z
  subst z
  obtain ⟨o, e, c, _⟩ := h1
  obtain ⟨o2, e2, c2, _⟩ := h2
  rw [e] at e2
  cases e2
  rw [c] at c2
  revert c2
  decide
theorem turn_enumT {P : Program} {w : World} {K : PySem.W.Frag} {elts : List Expr} {kk : Nat} {tpos : Pos} (a e it : Addr) :
    Turn P w K (.Tuple elts kk tpos) (IteT K a) [e, it] e (fun i h => (∃ old, IsEnum h e it ((i : Nat) : Int) old) ∧ h.IsTupleIter it a i ∧ e ≠ it ∧ e ≠ a) where
  mem := List.mem_cons_self ..
  obj := fun i h ⟨⟨old, he⟩, ⟨o, ho, _, hd⟩, _⟩ b hb => by
    rcases (show b = e ∨ b = it by simpa using hb) with rfl | rfl
    · exact ⟨_, he, fun v q => nomatch q⟩
    · exact ⟨o, ho, fun v q => by rw [hd] at q; cases q⟩
  keep := fun i h h' ⟨⟨old, he⟩, hi, hne⟩ k => ⟨⟨old, k e (by simp) _ he⟩, hi.at fun o q => k it (by simp) o q, hne⟩
  item := by
    intro X hP hw hK hc i pins s σ H E I hf st ⟨xs, x, hq, hx⟩
    subst hP hw hK
    obtain ⟨⟨old, he⟩, hit, hne, hea⟩ := st
    obtain ⟨its, rv, pt, hz⟩ := I.tuple hq
    obtain ⟨u, hu, ru⟩ := rv.get hx
    have hel : e < s.heap.objs.size := Heap.lt_size he
    have hil : it < s.heap.objs.size := by
      obtain ⟨_, q, _⟩ := hit
      exact Heap.lt_size q
    have hia : a ≠ it := tupiter_ne hit pt
    have hlt : i < its.toArray.size := by
      have := (List.getElem?_eq_some_iff.mp hu).1
      simpa using this
    have D : Draws X.prog X.w X.A.in1 it [it, a] its.toArray.size (fun i v => its.toArray[i]? = some v) (fun i h => h.IsTupleIter it a i ∧ h.IsTuple a its.toArray) :=
      Draws.tuple (show X.A.in1.handled = none from I.ok.hd hc) it a hia its.toArray
    refine wpAny_pyNext_enum_itemC D he ⟨hit, pt⟩ hlt hne (by simp [hne, hea]) fun y h' tk hy ho hst' hT hsz hk => ⟨_, rfl, ?_⟩
    refine wpAny_letOwnedTupleGo_enum (s := { s with heap := h', toks := tk + 1 }) ho fun h2 he2 sb => ?_
    have ey : y = u := by
      have q : its.toArray[i]? = some u := by simpa using hu
      rw [q] at hy
      exact (Option.some.inj hy).symm
    have hT2 := (sb.2 s.heap.objs.size (Nat.ne_of_gt hel)).trans hT
    rw [ey] at hT2
    have kept : ∀ b ob, b ∉ [e, it] → s.heap.get? b = some ob → h2.get? b = some ob := fun b ob hb q => by
      have n1 : b ≠ e := fun z => hb (by simp [z])
      have n2 : b ≠ it := fun z => hb (by simp [z])
      exact (sb.2 b n1).trans (hk b ob n1 n2 q)
    have hI := I.turnedNew (t' := tk + 1) (T := s.heap.objs.size) (ob := .tup [.int (i : Nat), x]) kept hf (Nat.le_refl _)
      ⟨(by decide : 2 ≤ sizeLine), [.int i tk, u], .cons ⟨_, rfl⟩ (.cons ru .nil), ⟨_, hT2, rfl, _, rfl⟩⟩
    refine ⟨.ref s.heap.objs.size, _, hI, rfl, ⟨_, x, rfl, I.hok.fresh (Nat.le_refl _), rfl, fun ys hy => by rw [I.tuple_inj hy hq]; exact hx⟩, ⟨⟨y, ?_⟩, hst'.1.at fun o q => (sb.2 it (Ne.symm hne)).trans q, hne, hea⟩, fun b hb => ?_⟩
    · rw [show ((i + 1 : Nat) : Int) = (i : Int) + 1 by omega]
      exact he2
    · have hb2 : b < s.heap.objs.size := by
        rcases (show b = e ∨ b = it by simpa using hb) with rfl | rfl
        · exact hel
        · exact hil
      rw [upd_ne (Nat.ne_of_lt hb2)]
      exact (hf b hb).1
  done := by
    intro X hP hw hK hc i pins s σ H E I hf st ⟨xs, hq, hx⟩
    subst hP hw hK
    obtain ⟨⟨old, he⟩, hit, hne, hea⟩ := st
    obtain ⟨its, rv, pt, hz⟩ := I.tuple hq
    have hia : a ≠ it := tupiter_ne hit pt
    have hl : its.toArray.size = i := by
      rw [← hx, rv.length]
      simp
    have D : Draws X.prog X.w X.A.in1 it [it, a] its.toArray.size (fun i v => its.toArray[i]? = some v) (fun i h => h.IsTupleIter it a i ∧ h.IsTuple a its.toArray) :=
      Draws.tuple (show X.A.in1.handled = none from I.ok.hd hc) it a hia its.toArray
    refine wpAny_pyNext_enum_endD D he ⟨by rw [hl]; exact hit, pt⟩ fun h' eb => ⟨rfl, I.turnedL (t' := s.toks) (ch := [e, it]) (fun b o hb q => eb b o (fun z => hb (by simp [z])) q) hf⟩
  self := fun A i s Q E ⟨⟨_, he⟩, _⟩ h => wpAny_pyIter_enum he h
theorem meets_enum1 {v : Value} {o : Obj} {G : Heap → Prop} (B : Begins v o G) :
    Meets (Builtin.«enumerate.__new__» ⟨[.type "enumerate", v], []⟩) (fun _ R s => G s.heap ∧ R (.ok (.ret (.ref (s.heap.push o).objs.size)))
      { s with heap := (s.heap.push o).push { cls := .type "enumerate", data := .fields #[.none, .bool false, .ref s.heap.objs.size, rawInt 0, .none, .none] } }) :=
  .of_wp fun prog w A R s ⟨h1, h⟩ => by
    obtain ⟨hp, gs, dr, tk, os⟩ := s
    have hsub := sub_enumerate
    have it1 : ∀ {A' : Around} {E : Value → Shared → Prop} {Q : Value → Shared → Prop}, Q (.ref hp.objs.size) ⟨hp.push o, gs, dr, tk, os⟩ → wpAny (model prog w) A' (pyIter v) Q E ⟨hp, gs, dr, tk, os⟩ :=
      fun q => B.iter prog w _ _ ⟨hp, gs, dr, tk, os⟩ _ h1 q
    wp_walk using it1
    refine wpAny_stack_any fun st => wpAny_pure ?_
    split
    · rename_i c _ _ _ _ _
      cases (c == Value.type "enumerate") <;> (wp_walk using it1; exact ⟨_, rfl, h⟩)
    · wp_walk using it1
      exact ⟨_, rfl, h⟩
/-- enumerate(t) of a tuple: two new objects -/
theorem call_enumT {P : Program} {w : World} {A : Around} {E : Value → Shared → Prop} {s : Shared} {t : Addr} {items : Array Value} {Q : Value → Shared → Prop} (ht : s.heap.IsTuple t items)
    (h : ∀ h', IsEnum h' (s.heap.objs.size + 1) s.heap.objs.size 0 .none → h'.IsTupleIter s.heap.objs.size t 0 → (∀ b o, s.heap.get? b = some o → h'.get? b = some o) → Q (.ref (s.heap.objs.size + 1)) { s with heap := h' }) :
    wpAny (model P w) A (call (.type "enumerate") [.ref t]) Q E s := by
  refine callType_new F.called_enumerate (by decide) (F.typeCall_enumerate_1 _) (F.newCall_enumerate_1 _) (fun obj => F.args_object_init_2 obj _) F.entry_enumerate_new (meets_enum1 (begins_tuple t items)) ⟨ht, ?_⟩
  have z1 : ∀ ob : Obj, (s.heap.push ob).objs.size = s.heap.objs.size + 1 := fun ob => Heap.size_push ..
  show _ ∧ _
  rw [z1]
  have q := Heap.get?_push_size (s.heap.push { cls := .type "tuple_iterator", data := .fields #[.ref t, .int 0 0] }) (o := { cls := .type "enumerate", data := .fields #[.none, .bool false, .ref s.heap.objs.size, rawInt 0, .none, .none] }) rfl
  rw [z1] at q
  exact ⟨⟨_, q, rfl⟩, h _ q ⟨_, Heap.get?_push_of_some _ (Heap.get?_push_size _ rfl), rfl, rfl⟩ fun b o x => Heap.get?_push_of_some _ (Heap.get?_push_of_some _ x)⟩
def iEnumT (K : PySem.W.Frag) (ta : TA) : TI := fun σ H R => ta σ H fun vs H1 => ∃ a xs, vs = [.ref a] ∧ SqT K H1 a xs ∧ R (IteT K a) H1
theorem pi_enumT {X : Cx} {e : Expr} {ta : TA} {p pos tpos : Pos} {elts : List Expr} {kk : Nat} (hg : Gl X "enumerate") (hm : X.mg "enumerate" = none) (ha : PA X [e] ta) (hs : starEach [e] X.env = [(false, eval e X.env)] := by rfl) :
    PI X (.Tuple elts kk tpos) (.Call (.Name "enumerate" p) [e] [] pos) (iEnumT X.K ta) := by
  refine ⟨fun pins s σ H R I h => Call_ (ld_blt I hg hm boot_enumerate (PyProof.Rows.callWith_type1 (thn (ha.run pos pins s σ H _ I h) fun us s1 ⟨vs, H1, I1, r1, a, xs, ex, hq, q⟩ => ?_) hs rfl))⟩
  subst ex
  rcases r1 with _ | ⟨r, rr⟩
  cases rr
  cases r
  obtain ⟨its, rv, pt, hz⟩ := I1.tuple hq
  refine call_enumT pt fun h' he hit hk => wpAny_pyIter_enum he ?_
  have la : a < s1.heap.objs.size := pt.lt
  refine ⟨s1.heap.objs.size + 1, [s1.heap.objs.size + 1, s1.heap.objs.size], _, _, H1, rfl, I1.kept (t' := s1.toks) hk, turn_enumT a _ _, ⟨⟨.none, he⟩, hit, Nat.succ_ne_self _, fun z => ?_⟩, fun b hb => ?_, q⟩
  · rw [← z] at la
    exact absurd la (Nat.not_lt.mpr (Nat.le_succ _))
  · have hle : s1.heap.objs.size ≤ b := by
      rcases (show b = s1.heap.objs.size + 1 ∨ b = s1.heap.objs.size by simpa using hb) with z | z
      · rw [z]
        exact Nat.le_succ _
      · rw [z]
        exact Nat.le_refl _
    exact I1.fpOk hle (I1.hok.fresh hle)
theorem walk_enumT {K : PySem.W.Frag} {a : Addr} {xs : List V} : Walk (IteT K a) xs.length (fun H => SqT K H a xs) (YPair (fun i => some (.int (i : Nat))) (fun i => xs[i]?)) := by
  refine ⟨fun i _ hi q => ⟨xs, xs[i], q, by simp [hi]⟩, fun _ q => ⟨xs, q, rfl⟩, fun i H v H' _ q ⟨T, x, h1, h2, h3, h4⟩ => ?_⟩
  exact ⟨T, .int (i : Nat), x, h1, h2, h3, rfl, h4 xs q⟩
end Z
namespace Z
open PySem PySem.Spec PyProof.Rows L2
local macro_rules | `(tactic| walk_at "look") => `(tactic| first | assumption | exact upd_same | exact SqL.of (by assumption) | exact SqT.of (by assumption) | exact SqL.of upd_same | exact SqT.of upd_same)
local macro_rules | `(tactic| walk_at "at") => `(tactic| first | exact at0 | exact at1 | exact at2 | exact at3 | exact ix0 | exact ix1 | assumption | exact atI_nat (by rfl))
local macro_rules | `(tactic| walk_at "sd") => `(tactic| ((try dsimp only); first | assumption | omega | (unfold CMul; omega) | (unfold CDiv; omega) | (unfold CPow; decide) | decide))
local macro_rules | `(tactic| walk_at "st") => `(tactic| first
  | (refine ⟨_, rfl, ?_⟩)
  | (refine ⟨_, _, rfl, rfl, ?_⟩)
  | (refine ⟨rfl, ?_⟩)
  | (refine .inl ⟨_, rfl, ?_⟩)
  | (refine ⟨_, _, _, _, rfl, rfl, (by walk_at "look"), (by walk_at "at"), ?_⟩)
  | (refine ⟨_, _, rfl, .inl (by walk_at "look"), ?_⟩)
  | (refine And.intro (by walk_at "sd") ?_)
  | fail "no step")
local macro_rules | `(tactic| walk_at "go") => `(tactic| repeat' (walk_at "st"))
local macro_rules | `(tactic| walk_at "ans") => `(tactic| (intro Q q; (repeat' (walk_at "st")); exact q))

/-- the law's source of numbers -/
def DSt (H : Hp) (d : Addr) : Prop := ∃ (s x : Int) (r : List Int), H d = some (.lst (.int s :: .int x :: r.map V.int)) ∧ 0 ≤ s ∧ s < 2147483647 ∧ 0 ≤ x ∧ (∀ y ∈ r, 0 ≤ y) ∧ r.length ≤ 63
@[irreducible] def sp_law_below (K : PySem.W.Frag) : Sp := fun vs H Q _ => ∃ (d : Addr) (n : Int), vs = [.ref d, .int n] ∧ DSt H d ∧ 0 < n ∧ n < 2 ^ 200 ∧
  ∀ (r : Int) (H' : Hp), 0 ≤ r → r < n → DSt H' d → Fx d H H' → Q (.int r) H'
def t_law_below_0a_0 (K : PySem.W.Frag) (E : XK) : TS := (tAsg (tBM K "list" rPopAt (tVar 0) (tCons (tC (.int 2)) tNil)) (gSub (tVar 0) (tC (.int 1)) rSetL))

def t_law_below_1a_2 (K : PySem.W.Frag) (E : XK) : TS := (tRet (tVar 2))

def t_law_below_1a_1 (K : PySem.W.Frag) (E : XK) : TS := tSeq (tAsg (tOp oFdvW (tOp (rIxL K) (tVar 0) (tC (.int 1))) (tVar 1)) (gSub (tVar 0) (tC (.int 1)) rSetL)) (t_law_below_1a_2 K E)

def t_law_below_1a_0 (K : PySem.W.Frag) (E : XK) : TS := tSeq (tAsg (tOp oMod (tCB cInt (tCons (tOp (rIxL K) (tVar 0) (tC (.int 1))) tNil)) (tVar 1)) (gName 2)) (t_law_below_1a_1 K E)

def t_law_below_3 (K : PySem.W.Frag) (E : XK) : TS := (tRet (tOp oMod (tCB cInt (tCons (tOp oFdv (tOp (rIxL K) (tVar 0) (tC (.int 0))) (tC (.int 64))) tNil)) (tVar 1)))

def t_law_below_2 (K : PySem.W.Frag) (E : XK) : TS := tSeq (tAsg (tOp oMod (tCB cInt (tCons (tOp oAdd (tOp oMul (tOp (rIxL K) (tVar 0) (tC (.int 0))) (tC (.int 48271))) (tC (.int 11))) tNil)) (tC (.int 2147483647))) (gSub (tVar 0) (tC (.int 0)) rSetL)) (t_law_below_3 K E)

@[irreducible] def t_law_below_1 (K : PySem.W.Frag) (E : XK) : TS := tSeq (tIfS (tTest (tOp oGt (tOp (rIxL K) (tVar 0) (tC (.int 1))) (tC (.int 0))))
    (t_law_below_1a_0 K E) tNext) (t_law_below_2 K E)

@[irreducible] def t_law_below_0 (K : PySem.W.Frag) (E : XK) : TS := tSeq (tIfS (tAnd (tTest (tOp rEq (tOp (rIxL K) (tVar 0) (tC (.int 1))) (tC (.int 0)))) (tTest (tOp oGt (tCB (cLen K) (tCons (tVar 0) tNil)) (tC (.int 2)))))
    (t_law_below_0a_0 K E) tNext) (t_law_below_1 K E)

theorem below_1 {K : PySem.W.Frag} {E : XK} {D : Ends} {d : Addr} {n : Int} {H : Hp} (hD : DSt H d) (hn0 : 0 < n) (hn1 : n < 2 ^ 200)
    (k : ∀ (r : Int) (H' : Hp), 0 ≤ r → r < n → DSt H' d → Fx d H H' → D.rt (.int r) H') : t_law_below_1 K E D [some (.ref d), some (.int n), none] H := by
  obtain ⟨s, x, r, hd, hs0, hs1, hx0, hr0, hrl⟩ := hD
  unfold t_law_below_1
  refine if_go (decide (0 < x)) (by walk_at "ans") (fun c => ?_) (fun c => ?_)
  · have hx : 0 < x := of_decide_eq_true c
    have hw : CDivW x n := wide_div hn0 (b := 200) (by omega) (by decide) (by decide)
    walk_at "go"
    refine k _ _ (Int.emod_nonneg _ (by omega)) (Int.emod_lt_of_pos _ hn0) ?_ fx_upd
    exact ⟨s, x / n, r, upd_same, hs0, hs1, Int.ediv_nonneg hx0 (by omega), hr0, hrl⟩
  · walk_at "go"
    refine k _ _ (Int.emod_nonneg _ (by omega)) (Int.emod_lt_of_pos _ hn0) ?_ fx_upd
    exact ⟨(s * 48271 + 11) % 2147483647, x, r, upd_same, Int.emod_nonneg _ (by omega), Int.emod_lt_of_pos _ (by omega), hx0, hr0, hrl⟩
theorem pure_law_below {K : PySem.W.Frag} (vs : List V) (H : Hp) (Q : VK) (E : XK) (h : sp_law_below K vs H Q E) : t_law_below_0 K E { nx := fun _ H' => Q .non H', rt := Q } (start ["_law_d", "_law_size", "_law_result"] vs) H := by
  unfold sp_law_below at h
  obtain ⟨d, n, rfl, hD, hn0, hn1, k⟩ := h
  show t_law_below_0 K E _ [some (.ref d), some (.int n), none] H
  unfold t_law_below_0
  obtain ⟨s, x, r, hd, hs0, hs1, hx0, hr0, hrl⟩ := id hD
  refine if_go (decide (V.int x = V.int 0) && decide (2 < ((r.map V.int).length : Int) + 1 + 1)) (fun Q q => and_go (decide (V.int x = V.int 0)) (decide (2 < ((r.map V.int).length : Int) + 1 + 1)) (by walk_at "ans") ?_ q) (fun c => ?_) (fun c => ?_)
  · intro _
    walk_at "ans"
  · rw [List.length_map] at c
    have c2 : 0 < r.length := by
      have := (Bool.and_eq_true_iff.mp c).2
      have := of_decide_eq_true this
      omega
    obtain ⟨y, r2, rfl⟩ : ∃ y r2, r = y :: r2 := by
      cases r with
      | nil => cases c2
      | cons y r2 => exact ⟨y, r2, rfl⟩
    have hi : seqIndex? 2 (V.int s :: V.int x :: (y :: r2).map V.int).length = some 2 := by
      unfold seqIndex?
      simp
      omega
    have ht : tyV K "list" (.ref d) H := .inl ⟨rfl, _, SqL.of hd⟩
    refine ⟨_, rfl, ht, d, _, 2, 2, _, rfl, rfl, hd, by decide, by decide, hi, rfl, ?_⟩
    walk_at "go"
    refine below_1 ⟨s, y, r2, upd_same, hs0, hs1, hr0 y (List.mem_cons_self ..), fun z hz => hr0 z (List.mem_cons_of_mem _ hz), by have := hrl; rw [List.length_cons] at this; omega⟩ hn0 hn1 fun r H' h1 h2 h3 h4 => k r H' h1 h2 h3 (fx_trans (fx_trans fx_upd fx_upd) h4)
  · exact below_1 hD hn0 hn1 k

/-- one of some items -/
@[irreducible] def sp_law_pick (K : PySem.W.Frag) : Sp := fun vs H Q _ => ∃ (d l : Addr) (xs : List V), vs = [.ref d, .ref l] ∧ DSt H d ∧ H l = some (.lst xs) ∧ l ≠ d ∧ xs ≠ [] ∧ xs.length ≤ 1000 ∧
  ∀ (i : Nat) (v : V) (H' : Hp), xs[i]? = some v → DSt H' d → Fx d H H' → Q v H'
def t_law_pick_0 (K : PySem.W.Frag) (E : XK) : TS := (tRet (tOp (rIxL K) (tVar 1) (tCall (sp_law_below K) [] E0 (tCons (tVar 0) (tCons (tCB (cLen K) (tCons (tVar 1) tNil)) tNil)))))

theorem pure_law_pick {K : PySem.W.Frag} (vs : List V) (H : Hp) (Q : VK) (E : XK) (h : sp_law_pick K vs H Q E) : t_law_pick_0 K E { nx := fun _ H' => Q .non H', rt := Q } (start ["_law_d", "_law_items"] vs) H := by
  unfold sp_law_pick at h
  obtain ⟨d, l, xs, rfl, hD, hl, nl, hne, hlen, k⟩ := h
  have h0 : 0 < xs.length := List.length_pos_iff.mpr hne
  walk_at "go"
  unfold sp_law_below
  refine ⟨d, xs.length, rfl, hD, by omega, by omega, fun r H' h1 h2 h3 h4 => ?_⟩
  have hr : r.toNat < xs.length := by omega
  have e : r = ((r.toNat : Nat) : Int) := by omega
  refine ⟨l, xs, r, xs[r.toNat], rfl, rfl, SqL.of (h4 l _ nl hl), at_of e (List.getElem?_eq_getElem hr), ?_⟩
  exact k r.toNat _ H' (List.getElem?_eq_getElem hr) h3 h4

end Z
namespace Z
open PySem PySem.Spec PyProof.Rows L2
local macro_rules | `(tactic| walk_at "look") => `(tactic| first | assumption | exact upd_same | exact SqL.of (by assumption) | exact SqT.of (by assumption) | exact SqL.of upd_same | exact SqT.of upd_same)
local macro_rules | `(tactic| walk_at "at") => `(tactic| first | exact at0 | exact at1 | exact at2 | exact at3 | exact ix0 | exact ix1 | assumption | exact atI_nat (by rfl))
local macro_rules | `(tactic| walk_at "sd") => `(tactic| ((try dsimp only); first | assumption | omega | (unfold CMul; omega) | (unfold CDiv; omega) | (unfold CPow; decide) | decide))
local macro_rules | `(tactic| walk_at "st") => `(tactic| first
  | (refine ⟨_, rfl, ?_⟩)
  | (refine ⟨_, _, rfl, rfl, ?_⟩)
  | (refine ⟨rfl, ?_⟩)
  | (refine .inl ⟨_, rfl, ?_⟩)
  | (refine ⟨_, _, _, _, rfl, rfl, (by walk_at "look"), (by walk_at "at"), ?_⟩)
  | (refine ⟨_, _, rfl, .inl (by walk_at "look"), ?_⟩)
  | (refine And.intro (by walk_at "sd") ?_)
  | fail "no step")
local macro_rules | `(tactic| walk_at "go") => `(tactic| repeat' (walk_at "st"))
local macro_rules | `(tactic| walk_at "ans") => `(tactic| (intro Q q; (repeat' (walk_at "st")); exact q))

/-! ### what a value is between -/
def isBet : PyData → Int → Int → Bool
  | .int i, a, b => decide (a ≤ i) && decide (i ≤ b)
  | _, _, _ => false
@[irreducible] def sp_is_between (K : PySem.W.Frag) : Sp := fun vs H Q _ => ∃ (v : V) (d : PyData) (a b : Int), vs = [v, .int a, .int b] ∧ Dp K H v d ∧ Q (.bl (isBet d a b)) H
def t_is_between_0 (K : PySem.W.Frag) (E : XK) : TS := (tRet (tAndV (tCB (rIsi K) (tCons (tVar 0) (tCons (tC (.ty "int")) tNil))) (tAndV (tNotV (tCB (rIsi K) (tCons (tVar 0) (tCons (tC (.ty "bool")) tNil)))) (tChain oLe oLe (tVar 1) (tVar 0) (tVar 2)))))

theorem pure_is_between {K : PySem.W.Frag} (vs : List V) (H : Hp) (Q : VK) (E : XK) (h : sp_is_between K vs H Q E) : t_is_between_0 K E { nx := fun _ H' => Q .non H', rt := Q } (start ["value", "least", "most"] vs) H := by
  unfold sp_is_between at h
  obtain ⟨v, d, a, b, rfl, hd, k⟩ := h
  show t_is_between_0 K E _ [some v, some (.int a), some (.int b)] H
  have i1 : ∀ (b1 : Bool), kitB (tyN d) "int" = some b1 → ∀ Q : VK, Q (.bl b1) H → (tCB (rIsi K) (tCons (tVar 0) (tCons (tC (.ty "int")) tNil))) [some v, some (.int a), some (.int b)] H Q :=
    fun b1 e Q q => ⟨v, rfl, isi_go hd e q⟩
  have i2 : ∀ (b1 : Bool), kitB (tyN d) "bool" = some b1 → ∀ Q : VK, Q (.bl (!b1)) H → (tNotV (tCB (rIsi K) (tCons (tVar 0) (tCons (tC (.ty "bool")) tNil)))) [some v, some (.int a), some (.int b)] H Q :=
    fun b1 e Q q => ⟨v, rfl, isi_go (Q := fun x H' => ∃ c, x = .bl c ∧ Q (.bl (!c)) H') hd e ⟨b1, rfl, q⟩⟩
  cases d with
  | int i =>
    obtain rfl := dp_int hd
    refine andV_go true (decide (a ≤ i) && decide (i ≤ b)) (i1 true (show kitB "int" "int" = some true by decide +kernel)) (fun _ Q q => andV_go true (decide (a ≤ i) && decide (i ≤ b)) (i2 false (show kitB "int" "bool" = some false by decide +kernel)) (fun _ Q q => ?_) q) k
    refine ⟨_, rfl, _, rfl, a, i, rfl, rfl, _, rfl, ?_⟩
    by_cases c : a ≤ i
    · rw [decide_eq_true c] at q ⊢
      exact iteT ⟨_, rfl, i, b, rfl, rfl, q⟩
    · rw [decide_eq_false c] at q ⊢
      exact iteF q
  | bool x =>
    exact andV_go true false (i1 true (show kitB "bool" "int" = some true by decide +kernel)) (fun _ Q q => andV_go false false (i2 true (show kitB "bool" "bool" = some true by decide +kernel)) (fun z => nomatch z) q) k
  | none => exact andV_go false false (i1 false (show kitB "NoneType" "int" = some false by decide +kernel)) (fun z => nomatch z) k
  | str x => exact andV_go false false (i1 false (show kitB "str" "int" = some false by decide +kernel)) (fun z => nomatch z) k
  | list x => exact andV_go false false (i1 false (show kitB "list" "int" = some false by decide +kernel)) (fun z => nomatch z) k
  | tuple x => exact andV_go false false (i1 false (show kitB "tuple" "int" = some false by decide +kernel)) (fun z => nomatch z) k
  | dict x => exact andV_go false false (i1 false (show kitB "dict" "int" = some false by decide +kernel)) (fun z => nomatch z) k

/-! ### verses -/
theorem str_beq (a b : Str) : (a == b) = decide (b = a) := by
  by_cases h : b = a
  · rw [decide_eq_true h, h]
    exact beq_self_eq_true a
  · rw [decide_eq_false h]
    exact beq_false_of_ne fun z => h z.symm
def isVerse : PyData → Bool
  | .tuple [d0, d1] => (match d0 with
    | .str x => (decide (x = "on") || decide (x = "back")) && isBet d1 1 6
    | _ => false)
  | _ => false
@[irreducible] def sp_is_verse (K : PySem.W.Frag) : Sp := fun vs H Q _ => ∃ (v : V) (d : PyData), vs = [v] ∧ Dp K H v d ∧ ∀ H', Ex H H' → Q (.bl (isVerse d)) H'
def t_is_verse_0a_0 (K : PySem.W.Frag) (E : XK) : TS := (tRet (tC (.bl false)))

def t_is_verse_1 (K : PySem.W.Frag) (E : XK) : TS := (tRet (tAndV (tOp (rIn K false) (tOp (rIxT K) (tVar 0) (tC (.int 0))) (tTup (tCons (tC (.str "on")) (tCons (tC (.str "back")) tNil)))) (tCall (sp_is_between K) [] E0 (tCons (tOp (rIxT K) (tVar 0) (tC (.int 1))) (tCons (tC (.int 1)) (tCons (tC (.int 6)) tNil))))))

@[irreducible] def t_is_verse_0 (K : PySem.W.Frag) (E : XK) : TS := tSeq (tIfS (tOr (tNot (tB (tCB (rIsi K) (tCons (tVar 0) (tCons (tC (.ty "tuple")) tNil))))) (tOr (tTest (tOp rNe (tCB (cLen K) (tCons (tVar 0) tNil)) (tC (.int 2)))) (tNot (tB (tCB (rIsi K) (tCons (tOp (rIxT K) (tVar 0) (tC (.int 0))) (tCons (tC (.ty "str")) tNil)))))))
    (t_is_verse_0a_0 K E) tNext) (t_is_verse_1 K E)

theorem verse_no {K : PySem.W.Frag} {H : Hp} {v : V} {d : PyData} {Q : VK} {E : XK} (h : Dp K H v d) (hn : kitB (tyN d) "tuple" = some false) (k : Q (.bl false) H) :
    t_is_verse_0 K E { nx := fun _ H' => Q .non H', rt := Q } [some v] H := by
  unfold t_is_verse_0
  refine if_go true (fun Q q => or_go true false (fun Q q => ⟨v, rfl, isi_go (Q := fun x H' => ∃ c, x = .bl c ∧ Q (!c) H') h hn ⟨false, rfl, q⟩⟩) (fun z => nomatch z) q) (fun _ => ?_) (fun z => nomatch z)
  exact k
theorem pure_is_verse {K : PySem.W.Frag} (vs : List V) (H : Hp) (Q : VK) (E : XK) (h : sp_is_verse K vs H Q E) : t_is_verse_0 K E { nx := fun _ H' => Q .non H', rt := Q } (start ["value"] vs) H := by
  unfold sp_is_verse at h
  obtain ⟨v, d, rfl, hd, k⟩ := h
  show t_is_verse_0 K E _ [some v] H
  cases d with
  | none => exact verse_no hd (show kitB "NoneType" "tuple" = some false by decide +kernel) (k H (ex_refl H))
  | bool x => exact verse_no hd (show kitB "bool" "tuple" = some false by decide +kernel) (k H (ex_refl H))
  | int x => exact verse_no hd (show kitB "int" "tuple" = some false by decide +kernel) (k H (ex_refl H))
  | str x => exact verse_no hd (show kitB "str" "tuple" = some false by decide +kernel) (k H (ex_refl H))
  | list x => exact verse_no hd (show kitB "list" "tuple" = some false by decide +kernel) (k H (ex_refl H))
  | dict x => exact verse_no hd (show kitB "dict" "tuple" = some false by decide +kernel) (k H (ex_refl H))
  | tuple ds =>
    have hy : kitB (tyN (.tuple ds)) "tuple" = some true := show kitB "tuple" "tuple" = some true by decide +kernel
    obtain ⟨a, xs, rfl, hs, hall⟩ := dp_tup hd
    have hl := dpa_len hall
    have h1 : ∀ Q : Bool → Hp → Prop, Q false H → (tNot (tB (tCB (rIsi K) (tCons (tVar 0) (tCons (tC (.ty "tuple")) tNil))))) [some (V.ref a)] H Q := fun Q q =>
      ⟨_, rfl, isi_go (Q := fun x H' => ∃ c, x = .bl c ∧ Q (!c) H') hd hy ⟨true, rfl, q⟩⟩
    have h2 : ∀ Q : Bool → Hp → Prop, Q (!decide (V.int (xs.length : Int) = V.int 2)) H → (tTest (tOp rNe (tCB (cLen K) (tCons (tVar 0) tNil)) (tC (.int 2)))) [some (V.ref a)] H Q := fun Q q =>
      ⟨_, rfl, a, xs, rfl, .inr hs, rfl, _, rfl, q⟩
    unfold t_is_verse_0
    by_cases hlen : xs.length = 2
    · obtain ⟨x0, x1, rfl⟩ : ∃ x0 x1, xs = [x0, x1] := by
        match xs, hlen with
        | [x0, x1], _ => exact ⟨x0, x1, rfl⟩
      cases hall with
      | cons e0 r =>
        rename_i d0 ds
        cases r with
        | cons e1 r =>
          rename_i d1 ds
          cases r
          have h3 : ∀ b1, kitB (tyN d0) "str" = some b1 → ∀ Q : Bool → Hp → Prop, Q (!b1) H → (tNot (tB (tCB (rIsi K) (tCons (tOp (rIxT K) (tVar 0) (tC (.int 0))) (tCons (tC (.ty "str")) tNil))))) [some (V.ref a)] H Q := fun b1 e Q q =>
            ⟨_, rfl, a, _, 0, x0, rfl, rfl, hs, at0, isi_go (Q := fun x H' => ∃ c, x = .bl c ∧ Q (!c) H') e0 e ⟨b1, rfl, q⟩⟩
          have go : ∀ b1, kitB (tyN d0) "str" = some b1 → (b1 = false → isVerse (.tuple [d0, d1]) = false) → (b1 = true → ∃ x, d0 = .str x) →
              tSeq (tIfS (tOr (tNot (tB (tCB (rIsi K) (tCons (tVar 0) (tCons (tC (.ty "tuple")) tNil))))) (tOr (tTest (tOp rNe (tCB (cLen K) (tCons (tVar 0) tNil)) (tC (.int 2)))) (tNot (tB (tCB (rIsi K) (tCons (tOp (rIxT K) (tVar 0) (tC (.int 0))) (tCons (tC (.ty "str")) tNil)))))))
                (t_is_verse_0a_0 K E) tNext) (t_is_verse_1 K E) { nx := fun _ H' => Q .non H', rt := Q } [some (V.ref a)] H := fun b1 e f1 f2 => by
            refine if_go (!b1) (fun Q q => or_go false (!b1) h1 (fun _ Q q => or_go false (!b1) (fun Q q => h2 Q (by rw [d_int]; exact q)) (fun _ => h3 b1 e) q) q) (fun c => ?_) (fun c => ?_)
            · have c2 : b1 = false := by simpa using c
              show Q (.bl false) H
              rw [← f1 c2]
              exact k H (ex_refl H)
            · have c2 : b1 = true := by simpa using c
              obtain ⟨x, rfl⟩ := f2 c2
              obtain rfl := dp_str e0
              refine ⟨_, rfl, a, _, 0, _, rfl, rfl, hs, at0, by decide, fun p hp => ?_⟩
              have hE : Ex H (upd H p (.tup [.str "on", .str "back"])) := ex_new hp
              have r1 : inV (.str x) [.str "on", .str "back"] = (decide (x = "on") || decide (x = "back")) := by
                show ((("on" : Str) == x) || ((("back" : Str) == x) || false)) = _
                rw [Bool.or_false, str_beq, str_beq]
              refine ⟨p, _, rfl, .inr (SqT.of upd_same), rfl, rfl, _, rfl, ?_⟩
              rw [if_neg Bool.false_ne_true, r1]
              by_cases c3 : (decide (x = "on") || decide (x = "back")) = true
              · rw [c3]
                refine iteT ⟨_, rfl, a, _, 1, x1, rfl, rfl, sqt_ex hE hs, at1, ?_⟩
                unfold sp_is_between
                refine ⟨x1, d1, 1, 6, rfl, dp_ex hE e1, ?_⟩
                have e5 : isBet d1 1 6 = isVerse (.tuple [.str x, d1]) := by
                  show _ = ((decide (x = "on") || decide (x = "back")) && isBet d1 1 6)
                  rw [c3, Bool.true_and]
                rw [e5]
                exact k _ hE
              · have c4 : (decide (x = "on") || decide (x = "back")) = false := by simpa using c3
                rw [c4]
                refine iteF ?_
                have e5 : false = isVerse (.tuple [.str x, d1]) := by
                  show _ = ((decide (x = "on") || decide (x = "back")) && isBet d1 1 6)
                  rw [c4, Bool.false_and]
                show Q (.bl false) _
                rw [e5]
                exact k _ hE
          cases d0 with
          | str x => exact go true (show kitB "str" "str" = some true by decide +kernel) (fun z => nomatch z) (fun _ => ⟨x, rfl⟩)
          | none => exact go false (show kitB "NoneType" "str" = some false by decide +kernel) (fun _ => rfl) (fun z => nomatch z)
          | bool x => exact go false (show kitB "bool" "str" = some false by decide +kernel) (fun _ => rfl) (fun z => nomatch z)
          | int x => exact go false (show kitB "int" "str" = some false by decide +kernel) (fun _ => rfl) (fun z => nomatch z)
          | list x => exact go false (show kitB "list" "str" = some false by decide +kernel) (fun _ => rfl) (fun z => nomatch z)
          | tuple x => exact go false (show kitB "tuple" "str" = some false by decide +kernel) (fun _ => rfl) (fun z => nomatch z)
          | dict x => exact go false (show kitB "dict" "str" = some false by decide +kernel) (fun _ => rfl) (fun z => nomatch z)
    · refine if_go true (fun Q q => or_go false true h1 (fun _ Q q => or_go true false (fun Q q => h2 Q (by rw [d_int, decide_eq_false (by omega)]; exact q)) (fun z => nomatch z) q) q) (fun _ => ?_) (fun z => nomatch z)
      have : isVerse (.tuple ds) = false := by
        match ds, hl with
        | [], _ => rfl
        | [_], _ => rfl
        | [_, _], h => exact absurd h hlen
        | _ :: _ :: _ :: _, _ => rfl
      show Q (.bl false) H
      rw [← this]
      exact k H (ex_refl H)

end Z
namespace Z
open PySem PySem.Spec PyProof.Rows L2
local macro_rules | `(tactic| walk_at "look") => `(tactic| first | assumption | exact upd_same | exact SqL.of (by assumption) | exact SqT.of (by assumption) | exact SqL.of upd_same | exact SqT.of upd_same)
local macro_rules | `(tactic| walk_at "at") => `(tactic| first | exact at0 | exact at1 | exact at2 | exact at3 | exact ix0 | exact ix1 | assumption | exact atI_nat (by rfl))
local macro_rules | `(tactic| walk_at "sd") => `(tactic| ((try dsimp only); first | assumption | omega | (unfold CMul; omega) | (unfold CDiv; omega) | (unfold CPow; decide) | decide))
local macro_rules | `(tactic| walk_at "st") => `(tactic| first
  | (refine ⟨_, rfl, ?_⟩)
  | (refine ⟨_, _, rfl, rfl, ?_⟩)
  | (refine ⟨rfl, ?_⟩)
  | (refine .inl ⟨_, rfl, ?_⟩)
  | (refine ⟨_, _, _, _, rfl, rfl, (by walk_at "look"), (by walk_at "at"), ?_⟩)
  | (refine ⟨_, _, rfl, .inl (by walk_at "look"), ?_⟩)
  | (refine And.intro (by walk_at "sd") ?_)
  | fail "no step")
local macro_rules | `(tactic| walk_at "go") => `(tactic| repeat' (walk_at "st"))
local macro_rules | `(tactic| walk_at "ans") => `(tactic| (intro Q q; (repeat' (walk_at "st")); exact q))

/-! ### rhymes: verses as data -/
abbrev Ve := Bool × Int
def wayS (b : Bool) : Str := if b then "on" else "back"
def vD (v : Ve) : PyData := .tuple [.str (wayS v.1), .int v.2]
def vsD (vs : List Ve) : PyData := .tuple (vs.map vD)
def riseOf (v : Ve) : Int := if v.1 then v.2 else 1 - v.2
def rises (vs : List Ve) : List Int := vs.map riseOf
/-- a right rhyme -/
structure RhOk (vs : List Ve) (left : Int) : Prop where
  l1 : 1 ≤ vs.length
  l4 : vs.length ≤ 4
  cnt : ∀ v ∈ vs, 1 ≤ v.2 ∧ v.2 ≤ 6
  lf : 1 ≤ left ∧ left ≤ 3
def rhF (tv : V) (left : Int) (tr : Addr) : List (Str × V) := putF "rises" (.ref tr) (putF "own_left" (.int left) (putF "own_verses" tv []))
theorem rhF_v (tv : V) (left : Int) (tr : Addr) : (rhF tv left tr).lookup ("own_verses" : Str) = some tv := by
  unfold rhF
  rw [lookup_putF, if_neg (by decide +kernel), lookup_putF, if_neg (by decide +kernel), lookup_putF, if_pos rfl]
theorem rhF_l (tv : V) (left : Int) (tr : Addr) : (rhF tv left tr).lookup ("own_left" : Str) = some (.int left) := by
  unfold rhF
  rw [lookup_putF, if_neg (by decide +kernel), lookup_putF, if_pos rfl]
theorem rhF_r (tv : V) (left : Int) (tr : Addr) : (rhF tv left tr).lookup ("rises" : Str) = some (.ref tr) := by
  unfold rhF
  rw [lookup_putF, if_pos rfl]
theorem rhF_no (tv : V) (left : Int) (tr : Addr) {m : Str} (h1 : ¬ m = "rises") (h2 : ¬ m = "own_left") (h3 : ¬ m = "own_verses") : (rhF tv left tr).lookup m = none := by
  unfold rhF
  rw [lookup_putF, if_neg h1, lookup_putF, if_neg h2, lookup_putF, if_neg h3]
  rfl
/-- the class as the top leaves it -/
structure RhC (K : PySem.W.Frag) : Prop where
  cl : Cls K (He.ga K "Rhyme")
  nv : NoAttr K (He.ga K "Rhyme") "own_verses"
  nl : NoAttr K (He.ga K "Rhyme") "own_left"
  nr : NoAttr K (He.ga K "Rhyme") "rises"
/-- a rhyme stands at a -/
def RhAt (K : PySem.W.Frag) (H : Hp) (a : Addr) (vs : List Ve) (left : Int) : Prop :=
  ∃ (dx : Addr) (tv : V) (tr : Addr), H a = some (.ins (He.ga K "Rhyme") dx (rhF tv left tr)) ∧ Dp K H tv (vsD vs) ∧ SqT K H tr ((rises vs).map V.int)
theorem rh_ex {K : PySem.W.Frag} {H H' : Hp} {a : Addr} {vs : List Ve} {left : Int} (e : Ex H H') (h : RhAt K H a vs left) : RhAt K H' a vs left := by
  obtain ⟨dx, tv, tr, h1, h2, h3⟩ := h
  exact ⟨dx, tv, tr, e _ _ h1, dp_ex e h2, sqt_ex e h3⟩
theorem vsD_flat (vs : List Ve) : flatD (vsD vs) = true := by
  show flatDs (vs.map vD) = true
  induction vs with
  | nil => rfl
  | cons v vs ih =>
    show (flatD (vD v) && flatDs (vs.map vD)) = true
    rw [ih]
    rfl
theorem rh_fx {K : PySem.W.Frag} {H H' : Hp} {a d : Addr} {vs : List Ve} {left : Int} (hd : NoT (H d)) (na : a ≠ d) (e : Fx d H H') (h : RhAt K H a vs left) : RhAt K H' a vs left := by
  obtain ⟨dx, tv, tr, h1, h2, h3⟩ := h
  exact ⟨dx, tv, tr, e _ _ na h1, dp_fxN hd e (vsD_flat vs) h2, sqt_fxN hd e h3⟩
theorem isVerse_vD {v : Ve} (h : 1 ≤ v.2 ∧ v.2 ≤ 6) : isVerse (vD v) = true := by
  show ((decide (wayS v.1 = "on") || decide (wayS v.1 = "back")) && (decide (1 ≤ v.2) && decide (v.2 ≤ 6))) = true
  rw [decide_eq_true h.1, decide_eq_true h.2]
  cases v.1 <;> rfl
/-- the i-th verse's own tuple -/
theorem vs_at {K : PySem.W.Frag} {H : Hp} {xs : List V} {vs : List Ve} {i : Nat} {x : V} (h : DpAll K H xs (vs.map vD)) (e : xs[i]? = some x) :
    ∃ v t, vs[i]? = some v ∧ x = .ref t ∧ SqT K H t [.str (wayS v.1), .int v.2] := by
  obtain ⟨d, h1, h2⟩ := dpa_get' h e
  rw [List.getElem?_map] at h1
  cases q : vs[i]? with
  | none =>
    rw [q] at h1
    cases h1
  | some v =>
    rw [q] at h1
    have e2 : vD v = d := Option.some.inj h1
    subst e2
    obtain ⟨t, ys, rfl, hs, ha⟩ := dp_tup h2
    refine ⟨v, t, rfl, rfl, ?_⟩
    cases ha with
    | cons a1 r =>
      cases r with
      | cons a2 r =>
        cases r
        rw [dp_str a1, dp_int a2] at hs
        exact hs
@[irreducible] def sp_Rhymeu_initu (K : PySem.W.Frag) : Sp := fun ws H Q _ => ∃ (p dx : Addr) (v : V) (vs : List Ve) (left : Int), ws = [.ref p, v, .int left] ∧ H p = some (.ins (He.ga K "Rhyme") dx []) ∧ Dp K H v (vsD vs) ∧ RhOk vs left ∧
  ∀ H' : Hp, RhAt K H' p vs left → (∀ b o, H b = some o → b ≠ p → H' b = some o) → Q .non H'
def t_Rhymeu_initu_0a_0 (K : PySem.W.Frag) (E : XK) : TS := tNever

def t_Rhymeu_initu_1a_0a_0 (K : PySem.W.Frag) (E : XK) : TS := tNever

@[irreducible] def t_Rhymeu_initu_1a_0 (K : PySem.W.Frag) (E : XK) : TS := (tIfS (tNot (tB (tCall (sp_is_verse K) [] E0 (tCons (tVar 4) tNil))))
    (t_Rhymeu_initu_1a_0a_0 K E) tNext)

def t_Rhymeu_initu_2a_0 (K : PySem.W.Frag) (E : XK) : TS := tNever

def t_Rhymeu_initu_5 (K : PySem.W.Frag) (E : XK) : TS := (sFld K (tVar 0) (tCB (cTup K) (tCons (tLc (iTup K (tVar 1)) (gTup K 2 (gCons (gName 5) (gCons (gName 6) gNil))) tYes (tIf (tTest (tOp rEq (tVar 5) (tC (.str "on")))) (tVar 6) (tOp oSub (tC (.int 1)) (tVar 6))) [5, 6]) tNil)) "rises")

def t_Rhymeu_initu_4 (K : PySem.W.Frag) (E : XK) : TS := tSeq (sFld K (tVar 0) (tVar 2) "own_left") (t_Rhymeu_initu_5 K E)

def t_Rhymeu_initu_3 (K : PySem.W.Frag) (E : XK) : TS := tSeq (sFld K (tVar 0) (tVar 1) "own_verses") (t_Rhymeu_initu_4 K E)

@[irreducible] def t_Rhymeu_initu_2 (K : PySem.W.Frag) (E : XK) : TS := tSeq (tIfS (tNot (tB (tCall (sp_is_between K) [] E0 (tCons (tVar 2) (tCons (tC (.int 1)) (tCons (tC (.int 3)) tNil))))))
    (t_Rhymeu_initu_2a_0 K E) tNext) (t_Rhymeu_initu_3 K E)

@[irreducible] def t_Rhymeu_initu_1 (K : PySem.W.Frag) (E : XK) : TS := tSeq (tFor (iEnumT K (tCons (tVar 1) tNil)) (gTup K 2 (gCons (gName 3) (gCons (gName 4) gNil)))
    (t_Rhymeu_initu_1a_0 K E)) (t_Rhymeu_initu_2 K E)

@[irreducible] def t_Rhymeu_initu_0 (K : PySem.W.Frag) (E : XK) : TS := tSeq (tIfS (tOr (tNot (tB (tCB (rIsi K) (tCons (tVar 1) (tCons (tC (.ty "tuple")) tNil))))) (tNot (tTest (tChain oLe oLe (tC (.int 1)) (tCB (cLen K) (tCons (tVar 1) tNil)) (tC (.int 4))))))
    (t_Rhymeu_initu_0a_0 K E) tNext) (t_Rhymeu_initu_1 K E)

theorem init_3 {K : PySem.W.Frag} {E : XK} {D : Ends} {p dx : Addr} {s3 s4 : Option V} {tv : V} {vs : List Ve} {left : Int} {H : Hp} (T : RhC K) (hp : H p = some (.ins (He.ga K "Rhyme") dx [])) (hv : Dp K H tv (vsD vs)) (hn : vs.length ≤ 4)
    (k : ∀ (σ' : L2.St) (H' : Hp), RhAt K H' p vs left → (∀ b o, H b = some o → b ≠ p → H' b = some o) → D.nx σ' H') : t_Rhymeu_initu_3 K E D [some (.ref p), some tv, some (.int left), s3, s4, none, none] H := by
  obtain ⟨a, xs, rfl, hs, hall⟩ := dp_tup hv
  have hl : xs.length = vs.length := by
    have := dpa_len hall
    rw [List.length_map] at this
    exact this
  refine ⟨_, rfl, _, rfl, p, _, dx, _, rfl, hp, T.cl, T.nv, (by show 0 < 1000; decide), ?_⟩
  refine ⟨_, rfl, _, rfl, p, _, dx, _, rfl, upd_same, T.cl, T.nl, (by show 1 < 1000; decide), ?_⟩
  rw [upd_upd]
  generalize hH2 : upd H p (.ins (He.ga K "Rhyme") dx (putF "own_left" (.int left) (putF "own_verses" (.ref a) []))) = H2
  have hp2 : H2 p = some (.ins (He.ga K "Rhyme") dx (putF "own_left" (.int left) (putF "own_verses" (.ref a) []))) := by
    rw [← hH2]
    exact upd_same
  have fx2 : Fx p H H2 := by
    rw [← hH2]
    exact fx_upd
  have hv2 : Dp K H2 (.ref a) (vsD vs) := dp_fxN (noT_i hp) fx2 (vsD_flat vs) hv
  have hs2 : SqT K H2 a xs := sqt_fxN (noT_i hp) fx2 hs
  have hall2 : DpAll K H2 xs (vs.map vD) := dpa_fxN (noT_i hp) fx2 (by exact vsD_flat vs) hall
  -- tuple([.. for way, count in verses])
  refine ⟨_, rfl, a, rfl, ⟨xs, hs2⟩, fun L hL => lc_map walk_tup (fun i => .int ((rises vs).getD i 0)) hL (by rw [hl]; exact Nat.lt_of_le_of_lt hn (by decide)) (fun H3 e => sqt_ex e hs2) ?_ ?_⟩
  · rintro i x H3 H4 hi e ⟨rfl, hx⟩ Q Zf q
    obtain ⟨ve, t, hve, rfl, ht⟩ := vs_at hall2 hx
    refine ⟨t, _, rfl, sqt_ex e ht, rfl, _, _, rfl, _, _, rfl, rfl, rfl, ?_⟩
    refine iteT (B := Zf H4) ?_
    have er : (rises vs).getD i 0 = riseOf ve := by
      unfold rises
      rw [List.getD_eq_getElem?_getD, List.getElem?_map, hve]
      rfl
    rw [er] at q
    refine ⟨_, rfl, rfl, _, rfl, ?_⟩
    rw [d_str]
    have q2 := q H4 (ex_refl H4)
    unfold riseOf at q2
    cases hb : ve.1 with
    | true =>
      rw [hb, if_pos rfl] at q2
      exact iteT ⟨_, rfl, q2⟩
    | false =>
      rw [hb, if_neg Bool.false_ne_true] at q2
      exact iteF ⟨_, rfl, 1, _, rfl, rfl, q2⟩
  · intro H3 e3 hL3
    have e4 : (List.range xs.length).map (fun i => V.int ((rises vs).getD i 0)) = (rises vs).map V.int := by
      refine map_range_get (rises vs) V.int 0 ?_
      unfold rises
      rw [List.length_map]
      exact hl
    rw [e4] at hL3
    refine ⟨L, _, rfl, .inl ⟨SqL.of hL3, fun l hl3 => ?_⟩⟩
    have hp4 : (upd H3 l (.tup ((rises vs).map V.int))) p = some (.ins (He.ga K "Rhyme") dx (putF "own_left" (.int left) (putF "own_verses" (.ref a) []))) := ex_new hl3 _ _ (e3 _ _ hp2)
    refine ⟨_, rfl, p, _, dx, _, rfl, hp4, T.cl, T.nr, (by show 2 < 1000; decide), ?_⟩
    refine k _ _ ⟨dx, .ref a, l, upd_same, ?_, ?_⟩ fun b o hb nb => ?_
    · exact dp_fxN (noT_i hp4) fx_upd (vsD_flat vs) (dp_ex (ex_new hl3) (dp_ex e3 hv2))
    · exact sqt_fxN (noT_i hp4) fx_upd (SqT.of upd_same)
    · rw [upd_ne nb]
      exact ex_new hl3 _ _ (e3 _ _ (fx2 b o nb hb))

end Z
namespace Z
open PySem PySem.Spec PyProof.Rows L2
local macro_rules | `(tactic| walk_at "look") => `(tactic| first | assumption | exact upd_same | exact SqL.of (by assumption) | exact SqT.of (by assumption) | exact SqL.of upd_same | exact SqT.of upd_same)
local macro_rules | `(tactic| walk_at "at") => `(tactic| first | exact at0 | exact at1 | exact at2 | exact at3 | exact ix0 | exact ix1 | assumption | exact atI_nat (by rfl))
local macro_rules | `(tactic| walk_at "sd") => `(tactic| ((try dsimp only); first | assumption | omega | (unfold CMul; omega) | (unfold CDiv; omega) | (unfold CPow; decide) | decide))
local macro_rules | `(tactic| walk_at "st") => `(tactic| first
  | (refine ⟨_, rfl, ?_⟩)
  | (refine ⟨_, _, rfl, rfl, ?_⟩)
  | (refine ⟨rfl, ?_⟩)
  | (refine .inl ⟨_, rfl, ?_⟩)
  | (refine ⟨_, _, _, _, rfl, rfl, (by walk_at "look"), (by walk_at "at"), ?_⟩)
  | (refine ⟨_, _, rfl, .inl (by walk_at "look"), ?_⟩)
  | (refine And.intro (by walk_at "sd") ?_)
  | fail "no step")
local macro_rules | `(tactic| walk_at "go") => `(tactic| repeat' (walk_at "st"))
local macro_rules | `(tactic| walk_at "ans") => `(tactic| (intro Q q; (repeat' (walk_at "st")); exact q))

theorem init_2 {K : PySem.W.Frag} {E : XK} {D : Ends} {p dx : Addr} {s3 s4 : Option V} {tv : V} {vs : List Ve} {left : Int} {H : Hp} (T : RhC K) (hp : H p = some (.ins (He.ga K "Rhyme") dx [])) (hv : Dp K H tv (vsD vs)) (ok : RhOk vs left)
    (k : ∀ (σ' : L2.St) (H' : Hp), RhAt K H' p vs left → (∀ b o, H b = some o → b ≠ p → H' b = some o) → D.nx σ' H') : t_Rhymeu_initu_2 K E D [some (.ref p), some tv, some (.int left), s3, s4, none, none] H := by
  unfold t_Rhymeu_initu_2
  refine if_go false (fun Q q => ?_) (fun z => nomatch z) (fun _ => ?_)
  · refine ⟨_, rfl, ?_⟩
    unfold sp_is_between
    refine ⟨_, .int left, 1, 3, rfl, .int left, true, ?_, q⟩
    show V.bl (decide (1 ≤ left) && decide (left ≤ 3)) = _
    rw [decide_eq_true ok.lf.1, decide_eq_true ok.lf.2]
    rfl
  · exact init_3 T hp hv ok.l4 k
theorem init_1 {K : PySem.W.Frag} {E : XK} {D : Ends} {p dx : Addr} {s3 s4 : Option V} {tv : V} {vs : List Ve} {left : Int} {H : Hp} (T : RhC K) (hp : H p = some (.ins (He.ga K "Rhyme") dx [])) (hv : Dp K H tv (vsD vs)) (ok : RhOk vs left)
    (k : ∀ (σ' : L2.St) (H' : Hp), RhAt K H' p vs left → (∀ b o, H b = some o → b ≠ p → H' b = some o) → D.nx σ' H') : t_Rhymeu_initu_1 K E D [some (.ref p), some tv, some (.int left), s3, s4, none, none] H := by
  unfold t_Rhymeu_initu_1
  obtain ⟨a, xs, rfl, hs, hall⟩ := dp_tup (id hv)
  refine ⟨_, rfl, a, xs, rfl, hs, for_it walk_enumT (fun i σ H' => Ex H H' ∧ ∃ s3 s4, σ = [some (.ref p), some (.ref a), some (.int left), s3, s4, none, none]) ⟨ex_refl H, s3, s4, rfl⟩ (fun i σ H' _ h => sqt_ex h.1 hs) ?_ ?_⟩
  · rintro i x σ H1 H2 hi ⟨e, u3, u4, rfl⟩ ⟨t, y1, y2, rfl, ht, rfl, h1, h2⟩
    cases h1
    have e2 : Ex H (upd H1 t (.tup [.int (i : Nat), y2])) := ex_trans e (ex_new ht)
    obtain ⟨d, hd1, hd2⟩ := dpa_get' hall h2
    refine ⟨t, _, rfl, SqT.of upd_same, rfl, _, _, rfl, _, _, rfl, rfl, ?_⟩
    unfold t_Rhymeu_initu_1a_0
    rw [List.getElem?_map] at hd1
    cases q : vs[i]? with
    | none =>
      rw [q] at hd1
      cases hd1
    | some v =>
      rw [q] at hd1
      have hm : v ∈ vs := List.mem_of_getElem? q
      have ed : vD v = d := Option.some.inj hd1
      subst ed
      refine if_goH false (fun Q q => ?_) (fun _ _ z => nomatch z) (fun H' e' _ => ?_)
      · refine ⟨_, rfl, ?_⟩
        unfold sp_is_verse
        refine ⟨y2, _, rfl, dp_ex e2 hd2, fun H' e' => ⟨true, ?_, q H' e'⟩⟩
        rw [isVerse_vD (ok.cnt v hm)]
      · exact ⟨ex_trans e2 e', _, _, rfl⟩
  · rintro σ H1 ⟨e, u3, u4, rfl⟩
    refine init_2 T (e _ _ hp) (dp_ex e hv) ok fun σ' H' r f => k σ' H' r fun b o hb nb => f b o (e b o hb) nb
theorem pure_Rhymeu_initu {K : PySem.W.Frag} (T : RhC K) (ws : List V) (H : Hp) (Q : VK) (E : XK) (h : sp_Rhymeu_initu K ws H Q E) :
    t_Rhymeu_initu_0 K E { nx := fun _ H' => Q .non H', rt := Q } (start ["self", "verses", "left", "index", "verse", "way", "count"] ws) H := by
  unfold sp_Rhymeu_initu at h
  obtain ⟨p, dx, v, vs, left, rfl, hp, hv, ok, k⟩ := h
  show t_Rhymeu_initu_0 K E _ [some (.ref p), some v, some (.int left), none, none, none, none] H
  obtain ⟨a, xs, rfl, hs, hall⟩ := dp_tup (id hv)
  have hl : xs.length = vs.length := by
    have := dpa_len hall
    rw [List.length_map] at this
    exact this
  unfold t_Rhymeu_initu_0
  refine if_go false (fun Q q => or_go false false (fun Q q => ⟨_, rfl, isi_go (Q := fun x H' => ∃ c, x = .bl c ∧ Q (!c) H') hv (show kitB "tuple" "tuple" = some true by decide +kernel) ⟨true, rfl, q⟩⟩) (fun _ Q q => ?_) q) (fun z => nomatch z) (fun _ => ?_)
  · refine ⟨_, rfl, a, xs, rfl, .inr hs, 1, _, rfl, rfl, _, rfl, ?_⟩
    have h1 := ok.l1
    have h4 := ok.l4
    refine iteT' (decide_eq_true (by omega)) ⟨_, _, rfl, rfl, _, rfl, ?_⟩
    rw [decide_eq_true (show (xs.length : Int) ≤ 4 by omega)]
    exact q
  · exact init_1 T hp hv ok fun σ' H' r f => k H' r f

/-- a rhyme of data (verses, left) -/
def tD (vs : List Ve) (left : Int) : PyData := .tuple [vsD vs, .int left]
theorem tD_flat (vs : List Ve) (left : Int) : flatD (tD vs left) = true := by
  show (flatD (vsD vs) && true) = true
  rw [vsD_flat]
  rfl
/-- (verses, left) taken apart -/
theorem tD_at {K : PySem.W.Frag} {H : Hp} {x : V} {vs : List Ve} {left : Int} (h : Dp K H x (tD vs left)) : ∃ a v, x = .ref a ∧ SqT K H a [v, .int left] ∧ Dp K H v (vsD vs) := by
  obtain ⟨a, xs, rfl, hs, hall⟩ := dp_tup h
  cases hall with
  | cons e0 r =>
    cases r with
    | cons e1 r =>
      cases r
      rw [dp_int e1] at hs
      exact ⟨a, _, rfl, hs, e0⟩
@[irreducible] def sp_law_made (K : PySem.W.Frag) : Sp := fun ws H Q _ => ∃ (x : V) (vs : List Ve) (left : Int), ws = [x] ∧ Dp K H x (tD vs left) ∧ RhOk vs left ∧
  ∀ (p : Addr) (H' : Hp), H p = none → Ex H H' → RhAt K H' p vs left → Q (.ref p) H'
def t_law_made_0 (K : PySem.W.Frag) (E : XK) : TS := (tRet (tMake (He.ga K "Rhyme") (sp_Rhymeu_initu K) [] E0 (tCons (tOp (rIxT K) (tVar 0) (tC (.int 0))) (tCons (tOp (rIxT K) (tVar 0) (tC (.int 1))) tNil))))

theorem pure_law_made {K : PySem.W.Frag} (ws : List V) (H : Hp) (Q : VK) (E : XK) (h : sp_law_made K ws H Q E) : t_law_made_0 K E { nx := fun _ H' => Q .non H', rt := Q } (start ["_law_t"] ws) H := by
  unfold sp_law_made at h
  obtain ⟨x, vs, left, rfl, hx, ok, k⟩ := h
  show t_law_made_0 K E _ [some x] H
  obtain ⟨a, v, rfl, hs, hv⟩ := tD_at hx
  refine ⟨_, rfl, a, _, 0, _, rfl, rfl, hs, at0, _, rfl, a, _, 1, _, rfl, rfl, hs, at1, fun p dp np nd ne => ?_⟩
  have e0 : Ex H (upd (upd H dp (.own p)) p (.ins (He.ga K "Rhyme") dp [])) := fun b o e => by
    rw [upd_ne (ne_of_none e np), upd_ne (ne_of_none e nd)]
    exact e
  unfold sp_Rhymeu_initu
  refine ⟨p, dp, v, vs, left, rfl, upd_same, dp_ex e0 hv, ok, fun H' r f => ⟨rfl, k p H' np (fun b o e => f b o (e0 b o e) (ne_of_none e np)) r⟩⟩

end Z
namespace Z
open PySem PySem.Spec PyProof.Rows L2
section
variable {X : Cx} {n j : Nat} {C : Addr} {sp : Sp} {E : XK}
/-- a == b, both instances of the class at C, by its own __eq__ -/
def rEqI (C : Addr) (sp : Sp) (E : XK) : R2 := fun x y H Q => ∃ a b dx dy fs gs, x = .ref a ∧ y = .ref b ∧ H a = some (.ins C dx fs) ∧ H b = some (.ins C dy gs) ∧ sp [.ref a, .ref b] H Q E
theorem op_eqI (c : Cm X.prog X.w X.K X.mg X.base n C "__eq__" sp) (hr : Room j X.A) (hk : n ≤ j) (hx : Passes (L2.CX X.prog X.w) X E) : OpR X (compareOp .Eq) (rEqI C sp E) := by
  obtain ⟨f, fd, ps, hc, hm, F, hb⟩ := c.ex
  intro pins s σ H x y v u Q I rx ry ⟨a, b, dx, dy, fs, gs, ex, ey, ha, hb2, q⟩
  subst ex ey
  cases rx
  cases ry
  obtain ⟨mA, J, _⟩ := ins_get I.hok ha
  obtain ⟨mB, J', _⟩ := ins_get I.hok hb2
  obtain ⟨od, J, _⟩ := J.look
  obtain ⟨od', J', _⟩ := J'.look
  obtain ⟨m, hF⟩ := I.fr
  refine PySem.W.cmp_K (op := .Eq) (tb := .ref C) hr.units0 hF I.ok.mod.kin J J'.type (by simp [PySem.W.notFirst]) hm.1 hm.2 ?_
  have rv : Vals [V.ref a, V.ref b] [Value.ref a, Value.ref b] := .cons rfl (.cons rfl .nil)
  refine wpAny_mono (run_fn (dvs := []) F (hr.mono hk) hb .nil hx I rv (by rw [List.append_nil]; exact q)) (fun v s1 hv => ?_) fun _ _ z => z
  obtain ⟨z, H1, I1, rz, qz⟩ := id hv
  cases z with
  | non => cases rz; exact hv
  | bl _ => cases rz; exact hv
  | int _ => obtain ⟨t, rfl⟩ := rz; exact hv
  | str _ => obtain ⟨t, rfl⟩ := rz; exact hv
  | byt _ => obtain ⟨t, rfl⟩ := rz; exact hv
  | flt _ => obtain ⟨t, rfl⟩ := rz; exact hv
  | ref _ => cases rz; exact hv
  | ty _ => cases rz; exact hv
end
end Z
namespace Z
open PySem PySem.Spec PyProof.Rows L2
local macro_rules | `(tactic| walk_at "look") => `(tactic| first | assumption | exact upd_same | exact SqL.of (by assumption) | exact SqT.of (by assumption) | exact SqL.of upd_same | exact SqT.of upd_same)
local macro_rules | `(tactic| walk_at "at") => `(tactic| first | exact at0 | exact at1 | exact at2 | exact at3 | exact ix0 | exact ix1 | assumption | exact atI_nat (by rfl))
local macro_rules | `(tactic| walk_at "sd") => `(tactic| ((try dsimp only); first | assumption | omega | (unfold CMul; omega) | (unfold CDiv; omega) | (unfold CPow; decide) | decide))
local macro_rules | `(tactic| walk_at "st") => `(tactic| first
  | (refine ⟨_, rfl, ?_⟩)
  | (refine ⟨_, _, rfl, rfl, ?_⟩)
  | (refine ⟨rfl, ?_⟩)
  | (refine .inl ⟨_, rfl, ?_⟩)
  | (refine ⟨_, _, _, _, rfl, rfl, (by walk_at "look"), (by walk_at "at"), ?_⟩)
  | (refine ⟨_, _, rfl, .inl (by walk_at "look"), ?_⟩)
  | (refine And.intro (by walk_at "sd") ?_)
  | fail "no step")
local macro_rules | `(tactic| walk_at "go") => `(tactic| repeat' (walk_at "st"))
local macro_rules | `(tactic| walk_at "ans") => `(tactic| (intro Q q; (repeat' (walk_at "st")); exact q))

/-! ### == of rhymes -/
theorem eqvAll_vD : ∀ vs us : List Ve, PyData.eqvAll (vs.map vD) (us.map vD) = decide (vs = us)
  | [], [] => rfl
  | [], _ :: _ => rfl
  | _ :: _, [] => rfl
  | v :: vs, u :: us => by
    have ih := eqvAll_vD vs us
    show (PyData.eqv (vD v) (vD u) && PyData.eqvAll (vs.map vD) (us.map vD)) = _
    rw [ih]
    have e : PyData.eqv (vD v) (vD u) = decide (v = u) := by
      show ((wayS v.1 == wayS u.1) && ((v.2 == u.2) && true)) = _
      obtain ⟨a, b⟩ := v
      obtain ⟨c, d⟩ := u
      rw [Bool.and_true]
      have ib : ∀ x y : Int, (x == y) = decide (x = y) := fun x y => by
        by_cases h : x = y
        · rw [h, decide_eq_true rfl]
          exact beq_self_eq_true y
        · rw [decide_eq_false h]
          exact beq_false_of_ne h
      have wn : (("on" : Str) == "back") = false := by decide +kernel
      have nw : (("back" : Str) == "on") = false := by decide +kernel
      have ww : ∀ x : Str, (x == x) = true := fun x => beq_self_eq_true x
      rw [ib]
      cases a <;> cases c
      · show ((("back" : Str) == "back") && _) = _
        rw [ww]
        simp
      · show ((("back" : Str) == "on") && _) = _
        rw [nw]
        simp
      · show ((("on" : Str) == "back") && _) = _
        rw [wn]
        simp
      · show ((("on" : Str) == "on") && _) = _
        rw [ww]
        simp
    rw [e]
    by_cases h1 : v = u <;> by_cases h2 : vs = us <;> simp [h1, h2]
theorem eqv_vsD (vs us : List Ve) : PyData.eqv (vsD vs) (vsD us) = decide (vs = us) := eqvAll_vD vs us
theorem lay_vD : ∀ vs : List Ve, PyData.canLayAll0 (vs.map vD) = true ∧ PyData.depthAll (vs.map vD) ≤ 1
  | [] => ⟨rfl, Nat.zero_le _⟩
  | v :: vs => by
    obtain ⟨h1, h2⟩ := lay_vD vs
    constructor
    · show (PyData.canLay0 (vD v) && PyData.canLayAll0 (vs.map vD)) = true
      rw [h1, Bool.and_true]
      obtain ⟨a, b⟩ := v
      cases a
      · exact (by decide +kernel : PyData.canLayAll0 [.str "back", .int 0] = true)
      · exact (by decide +kernel : PyData.canLayAll0 [.str "on", .int 0] = true)
    · show max (PyData.depth (vD v)) (PyData.depthAll (vs.map vD)) ≤ 1
      have : PyData.depth (vD v) = 1 := rfl
      omega
theorem shaped_vsD (vs : List Ve) : SeqAt.shaped (vsD vs) = true := by
  obtain ⟨h1, h2⟩ := lay_vD vs
  show (PyData.canLayAll0 (vs.map vD) && decide (PyData.depthAll (vs.map vD) + 1 ≤ 64)) = true
  rw [h1, decide_eq_true (by omega)]
  rfl
@[irreducible] def sp_Rhymeu_equ (K : PySem.W.Frag) : Sp := fun ws H Q _ => ∃ (a b : Addr) (vs us : List Ve) (l m : Int), ws = [.ref a, .ref b] ∧ RhAt K H a vs l ∧ RhAt K H b us m ∧ Q (.bl (decide (vs = us) && decide (l = m))) H
def t_Rhymeu_equ_0 (K : PySem.W.Frag) (E : XK) : TS := (tRet (tAndV (tCB (rIsi K) (tCons (tVar 1) (tCons (tC (.ref (He.ga K "Rhyme"))) tNil))) (tAndV (tOp (rEqD K) (tFld K (tVar 0) "own_verses") (tFld K (tVar 1) "own_verses")) (tOp rEq (tFld K (tVar 0) "own_left") (tFld K (tVar 1) "own_left")))))

theorem pure_Rhymeu_equ {K : PySem.W.Frag} (T : RhC K) (TI : C8.InsC K (He.ga K "Rhyme")) (ws : List V) (H : Hp) (Q : VK) (E : XK) (h : sp_Rhymeu_equ K ws H Q E) :
    t_Rhymeu_equ_0 K E { nx := fun _ H' => Q .non H', rt := Q } (start ["self", "other"] ws) H := by
  unfold sp_Rhymeu_equ at h
  obtain ⟨a, b, vs, us, l, m, rfl, ⟨dx, tv, tr, h1, h2, h3⟩, ⟨dy, uv, ur, g1, g2, g3⟩, k⟩ := h
  show t_Rhymeu_equ_0 K E _ [some (.ref a), some (.ref b)] H
  refine andV_go true (decide (vs = us) && decide (l = m)) (fun Q q => ?_) (fun _ Q q => andV_go (decide (vs = us)) (decide (l = m)) (fun Q q => ?_) (fun _ Q q => ?_) q) k
  · exact ⟨_, rfl, .ref b, _, _, _, true, rfl, .own _, .base (TyOf.ins g1 TI.cl TI.ha TI.hn TI.htk TI.hm), TI.me, q⟩
  · refine ⟨_, rfl, a, _, dx, _, _, rfl, h1, T.cl, T.nv, rhF_v _ _ _, _, rfl, b, _, dy, _, _, rfl, g1, T.cl, T.nv, rhF_v _ _ _, _, _, h2, g2, shaped_vsD vs, shaped_vsD us, ?_⟩
    rw [eqv_vsD]
    exact q
  · refine ⟨_, rfl, a, _, dx, _, _, rfl, h1, T.cl, T.nl, rhF_l _ _ _, _, rfl, b, _, dy, _, _, rfl, g1, T.cl, T.nl, rhF_l _ _ _, rfl, ?_⟩
    rw [d_int]
    exact q
/-! ### the law's source -/
@[irreducible] def sp_law_random (K : PySem.W.Frag) : Sp := fun ws H Q _ => ∃ (a : Addr) (ns : List Int) (z : Int), ws = [.ref a, .int z] ∧ SqL K H a (ns.map V.int) ∧ ns.length ≤ 63 ∧ 0 ≤ z ∧ z < 2147483647 ∧
  ∀ (d : Addr) (H' : Hp), H d = none → Ex H H' → DSt H' d → Q (.ref d) H'
def t_law_random_1a_0 (K : PySem.W.Frag) (E : XK) : TS := (tAsg (tOp oMod (tCB cInt (tCons (tOp oAdd (tOp oMul (tVar 2) (tC (.int 31))) (tCB cAbs (tCons (tVar 3) tNil))) tNil)) (tC (.int 2147483647))) (gName 2))

def t_law_random_2 (K : PySem.W.Frag) (E : XK) : TS := (tRet (tOp rCat (tLst (tCons (tVar 2) (tCons (tC (.int 0)) tNil))) (tLc (iList K (tVar 0)) (gName 3) (tTest (tOp oGe (tVar 3) (tOp oPow (tC (.int 10)) (tC (.int 18))))) (tVar 3) [3])))

@[irreducible] def t_law_random_1 (K : PySem.W.Frag) (E : XK) : TS := tSeq (tFor (iList K (tVar 0)) (gName 3)
    (t_law_random_1a_0 K E)) (t_law_random_2 K E)

def t_law_random_0 (K : PySem.W.Frag) (E : XK) : TS := tSeq (tAsg (tVar 1) (gName 2)) (t_law_random_1 K E)

theorem random_2 {K : PySem.W.Frag} {E : XK} {D : Ends} {a : Addr} {ns : List Int} {z s : Int} {u : Option V} {H : Hp} (hS : SqL K H a (ns.map V.int)) (hn : ns.length ≤ 63) (h0 : 0 ≤ s) (h1 : s < 2147483647)
    (k : ∀ (d : Addr) (H' : Hp), H d = none → Ex H H' → DSt H' d → D.rt (.ref d) H') : t_law_random_2 K E D [some (.ref a), some (.int z), some (.int s), u] H := by
  refine ⟨_, rfl, (by show 2 ≤ sizeLine; decide), fun p hp => ?_⟩
  have e1 : Ex H (upd H p (.lst [.int s, .int 0])) := ex_new hp
  refine ⟨_, rfl, a, rfl, ⟨_, sq_ex e1 hS⟩, fun q hq => lc_pure walk_list (fun i => decide ((10 : Int) ^ 18 ≤ ns.getD i 0)) (fun i => .int (ns.getD i 0)) hq (by rw [List.length_map]; exact Nat.lt_of_le_of_lt hn (by decide)) (fun H3 e => sq_ex (ex_trans e1 e) hS) ?_ ?_⟩
  · rintro i x H3 H4 hi e ⟨rfl, hx⟩ Q Zf q1 q2
    rw [List.getElem?_map] at hx
    have hi2 : i < ns.length := by
      rw [List.length_map] at hi
      exact hi
    rw [List.getElem?_eq_getElem hi2] at hx
    have ex : V.int ns[i] = x := Option.some.inj hx
    subst ex
    have eg : ns.getD i 0 = ns[i] := by
      rw [List.getD_eq_getElem?_getD, List.getElem?_eq_getElem hi2]
      rfl
    rw [eg] at q1 q2
    refine ⟨rfl, ?_⟩
    refine ⟨_, rfl, 10, 18, rfl, rfl, ⟨by decide, by decide, by decide⟩, _, _, rfl, rfl, _, rfl, ?_⟩
    by_cases c : (10 : Int) ^ 18 ≤ ns[i]
    · refine iteT' (decide_eq_true c) ⟨_, rfl, q1 (decide_eq_true c) _ (ex_refl _)⟩
    · refine iteF' (decide_eq_false c) (q2 (decide_eq_false c) _ (ex_refl _))
  · intro H3 e hq3
    obtain ⟨r, hr, hr2, hr3⟩ : ∃ r : List Int, ((List.range (ns.map V.int).length).filter (fun i => decide ((10 : Int) ^ 18 ≤ ns.getD i 0))).map (fun i => V.int (ns.getD i 0)) = r.map V.int ∧ (∀ y ∈ r, 0 ≤ y) ∧ r.length ≤ 63 := by
      refine ⟨((List.range (ns.map V.int).length).filter (fun i => decide ((10 : Int) ^ 18 ≤ ns.getD i 0))).map (fun i => ns.getD i 0), ?_, ?_, ?_⟩
      · rw [List.map_map]
        rfl
      · intro y hy
        obtain ⟨i, hi, rfl⟩ := List.mem_map.mp hy
        have := of_decide_eq_true (List.mem_filter.mp hi).2
        omega
      · rw [List.length_map]
        refine Nat.le_trans (List.length_filter_le ..) ?_
        rw [List.length_range, List.length_map]
        exact hn
    rw [hr] at hq3
    refine ⟨p, q, _, _, rfl, rfl, e _ _ upd_same, hq3, ?_, fun d hd => ?_⟩
    · rw [List.length_map]
      refine Nat.le_trans (Nat.add_le_add_left hr3 _) (by show 2 + 63 ≤ sizeLine; decide)
    · refine k d _ (ex_free (ex_trans e1 e) hd) (ex_trans (ex_trans e1 e) (ex_new hd)) ⟨s, 0, r, upd_same, h0, h1, Int.le_refl 0, hr2, hr3⟩
theorem pure_law_random {K : PySem.W.Frag} (ws : List V) (H : Hp) (Q : VK) (E : XK) (h : sp_law_random K ws H Q E) :
    t_law_random_0 K E { nx := fun _ H' => Q .non H', rt := Q } (start ["_law_script", "_law_salt", "_law_seed", "_law_cell"] ws) H := by
  unfold sp_law_random at h
  obtain ⟨a, ns, z, rfl, hS, hn, z0, z1, k⟩ := h
  refine ⟨_, rfl, ?_⟩
  show t_law_random_1 K E _ [some (.ref a), some (.int z), some (.int z), none] H
  unfold t_law_random_1
  refine ⟨_, rfl, a, rfl, ⟨_, hS⟩, for_it walk_list (fun i σ H' => H' = H ∧ ∃ (s : Int) (u : Option V), σ = [some (.ref a), some (.int z), some (.int s), u] ∧ 0 ≤ s ∧ s < 2147483647) ⟨rfl, z, none, rfl, z0, z1⟩ (fun i σ H' _ h => by rw [h.1]; exact hS) ?_ ?_⟩
  · rintro i x σ H1 H2 hi ⟨rfl, s, u, rfl, h0, h1⟩ ⟨rfl, hx⟩
    rw [List.getElem?_map] at hx
    have hi2 : i < ns.length := by
      rw [List.length_map] at hi
      exact hi
    rw [List.getElem?_eq_getElem hi2] at hx
    have ex : V.int ns[i] = x := Option.some.inj hx
    subst ex
    refine ⟨_, rfl, s, 31, rfl, rfl, .inr ⟨by decide, by decide⟩, _, rfl, _, rfl, _, _, rfl, rfl, .inl ⟨_, rfl, ?_⟩⟩
    refine ⟨_, _, rfl, rfl, (by show (0 : Int) < 2147483647; decide), ?_⟩
    exact ⟨rfl, _, _, rfl, Int.emod_nonneg _ (by decide), Int.emod_lt_of_pos _ (by decide)⟩
  · rintro σ H1 ⟨rfl, s, u, rfl, h0, h1⟩
    exact random_2 (E := E) hS hn h0 h1 k

/-! ### a drawn rhyme -/
@[irreducible] def sp_law_drawn (K : PySem.W.Frag) : Sp := fun ws H Q _ => ∃ (d : Addr), ws = [.ref d] ∧ DSt H d ∧
  ∀ (x : V) (vs : List Ve) (left : Int) (H' : Hp), RhOk vs left → Dp K H' x (tD vs left) → DSt H' d → Fx d H H' → Q x H'
def t_law_drawn_1a_0 (K : PySem.W.Frag) (E : XK) : TS := (tDrop (tBM K "list" rAppend (tVar 1) (tCons (tTup (tCons (tCall (sp_law_pick K) [] E0 (tCons (tVar 0) (tCons (tLst (tCons (tC (.str "on")) (tCons (tC (.str "on")) (tCons (tC (.str "back")) tNil)))) tNil))) (tCons (tOp oAdd (tC (.int 1)) (tCall (sp_law_below K) [] E0 (tCons (tVar 0) (tCons (tC (.int 6)) tNil)))) tNil))) tNil)))

def t_law_drawn_2 (K : PySem.W.Frag) (E : XK) : TS := (tRet (tTup (tCons (tCB (cTup K) (tCons (tVar 1) tNil)) (tCons (tOp oAdd (tC (.int 1)) (tCall (sp_law_below K) [] E0 (tCons (tVar 0) (tCons (tC (.int 3)) tNil)))) tNil))))

@[irreducible] def t_law_drawn_1 (K : PySem.W.Frag) (E : XK) : TS := tSeq (tFor (iRng1 (tCons (tOp oAdd (tC (.int 1)) (tCall (sp_law_below K) [] E0 (tCons (tVar 0) (tCons (tC (.int 4)) tNil)))) tNil)) (gName 2)
    (t_law_drawn_1a_0 K E)) (t_law_drawn_2 K E)

def t_law_drawn_0 (K : PySem.W.Frag) (E : XK) : TS := tSeq (tAsg (tLst tNil) (gName 1)) (t_law_drawn_1 K E)

theorem dst_l {H : Hp} {d : Addr} (h : DSt H d) : ∃ zs, H d = some (.lst zs) := by
  obtain ⟨s, x, r, hd, _⟩ := h
  exact ⟨_, hd⟩
theorem dst_noT {H : Hp} {d : Addr} (h : DSt H d) : NoT (H d) := by
  obtain ⟨zs, hd⟩ := dst_l h
  exact noT_l hd
theorem dst_ex {H H' : Hp} {d : Addr} (e : Ex H H') (h : DSt H d) : DSt H' d := by
  obtain ⟨s, x, r, hd, hr⟩ := h
  exact ⟨s, x, r, e _ _ hd, hr⟩
/-- what stands of the drawn verses: the list at l -/
structure VsL (K : PySem.W.Frag) (H : Hp) (l : Addr) (vs : List Ve) : Prop where
  ex : ∃ xs, H l = some (.lst xs) ∧ DpAll K H xs (vs.map vD)
  cnt : ∀ v ∈ vs, 1 ≤ v.2 ∧ v.2 ≤ 6
theorem vsD_flats (vs : List Ve) : flatDs (vs.map vD) = true := vsD_flat vs
theorem drawn_turn {K : PySem.W.Frag} {E : XK} {D : Ends} {d l : Addr} {u : Option V} {vs : List Ve} {H : Hp} (hD : DSt H d) (nl : l ≠ d) (hv : VsL K H l vs) (hn : vs.length ≤ 10)
    (k : ∀ (v : Ve) (H' : Hp), VsL K H' l (vs ++ [v]) → DSt H' d → (∀ b o, b ≠ d → b ≠ l → H b = some o → H' b = some o) → D.nx [some (.ref d), some (.ref l), u] H') :
    t_law_drawn_1a_0 K E D [some (.ref d), some (.ref l), u] H := by
  obtain ⟨⟨xs, hl, hall⟩, hc⟩ := hv
  refine ⟨_, rfl, .inl ⟨rfl, _, SqL.of hl⟩, _, rfl, (by show 3 ≤ sizeLine; decide), fun p hp => ?_⟩
  have np : d ≠ p := by
    obtain ⟨zs, hd⟩ := dst_l hD
    exact ne_of_none hd hp
  have e1 := ex_new (o := .lst [.str "on", .str "on", .str "back"]) hp
  unfold sp_law_pick
  refine ⟨d, p, [.str "on", .str "on", .str "back"], rfl, dst_ex e1 hD, upd_same, np.symm, by simp, by decide, fun i w H2 hw hD2 f2 => ?_⟩
  obtain ⟨b, rfl⟩ : ∃ b, w = .str (wayS b) := by
    match i, hw with
    | 0, h => exact ⟨true, (Option.some.inj h).symm⟩
    | 1, h => exact ⟨true, (Option.some.inj h).symm⟩
    | 2, h => exact ⟨false, (Option.some.inj h).symm⟩
    | i + 3, h => simp at h
  refine ⟨_, rfl, ?_⟩
  unfold sp_law_below
  refine ⟨d, 6, rfl, hD2, by decide, by decide, fun r H3 r0 r6 hD3 f3 => ?_⟩
  refine ⟨1, r, rfl, rfl, (by show 2 ≤ sizeLine; decide), fun t ht => ?_⟩
  have F : Fx d H H3 := fx_trans (fx_ex e1) (fx_trans f2 f3)
  have hl3 : H3 l = some (.lst xs) := F l _ nl hl
  have e4 := ex_new (o := .tup [.str (wayS b), .int (1 + r)]) ht
  have hl4 := e4 _ _ hl3
  have hall4 : DpAll K (upd H3 t (.tup [.str (wayS b), .int (1 + r)])) xs (vs.map vD) := dpa_ex e4 (dpa_fxN (dst_noT hD) F (vsD_flats vs) hall)
  have ntl : t ≠ l := (ne_of_none hl3 ht).symm
  refine ⟨l, xs, _, rfl, rfl, hl4, ?_, ?_⟩
  · have := dpa_len hall
    rw [List.length_map] at this
    rw [this]
    exact Nat.lt_of_le_of_lt hn (by decide)
  · have hT : SqT K (upd (upd H3 t (.tup [.str (wayS b), .int (1 + r)])) l (.lst (xs ++ [.ref t]))) t [.str (wayS b), .int (1 + r)] := SqT.of (by rw [upd_ne ntl]; exact upd_same)
    refine k (b, 1 + r) _ ⟨⟨_, upd_same, ?_⟩, ?_⟩ ?_ ?_
    · rw [List.map_append]
      exact dpa_snoc (.tup hT (.cons (.str _) (.cons (.int _) .nil))) (dpa_fxN (noT_l hl4) fx_upd (vsD_flats vs) hall4)
    · intro v hm
      rcases List.mem_append.mp hm with hm | hm
      · exact hc v hm
      · rw [List.mem_singleton.mp hm]
        exact ⟨by show 1 ≤ 1 + r; omega, by show 1 + r ≤ 6; omega⟩
    · obtain ⟨s, x, r, hd, hr⟩ := dst_ex e4 hD3
      exact ⟨s, x, r, by rw [upd_ne nl.symm]; exact hd, hr⟩
    · intro b2 o nb nl2 hb
      rw [upd_ne nl2]
      exact e4 _ _ (F b2 o nb hb)
theorem pure_law_drawn {K : PySem.W.Frag} (ws : List V) (H : Hp) (Q : VK) (E : XK) (h : sp_law_drawn K ws H Q E) : t_law_drawn_0 K E { nx := fun _ H' => Q .non H', rt := Q } (start ["_law_d", "_law_verses", "_law_k"] ws) H := by
  unfold sp_law_drawn at h
  obtain ⟨d, rfl, hD, k⟩ := h
  refine ⟨Nat.zero_le _, fun l hl => ?_⟩
  show t_law_drawn_1 K E _ [some (.ref d), some (.ref l), none] _
  have nl : l ≠ d := by
    obtain ⟨zs, hd⟩ := dst_l hD
    exact (ne_of_none hd hl).symm
  have e1 := ex_new (o := .lst []) hl
  unfold t_law_drawn_1
  refine ⟨_, rfl, ?_⟩
  unfold sp_law_below
  refine ⟨d, 4, rfl, dst_ex e1 hD, by decide, by decide, fun r H1 r0 r4 hD1 f1 => ?_⟩
  have hl1 : H1 l = some (.lst []) := f1 l _ nl upd_same
  have fr1 : ∀ b o, b ≠ d → b ≠ l → H b = some o → H1 b = some o := fun b o nb _ hb => f1 b o nb (e1 b o hb)
  refine ⟨1, r, rfl, rfl, 1 + r, rfl, by omega, by omega, for_range (fun i σ H' => ∃ (vs : List Ve) (u : Option V), σ = [some (.ref d), some (.ref l), u] ∧ VsL K H' l vs ∧ DSt H' d ∧ vs.length = i ∧ (∀ b o, b ≠ d → b ≠ l → H b = some o → H' b = some o))
    ⟨[], none, rfl, ⟨⟨[], hl1, .nil⟩, fun v hm => nomatch hm⟩, hD1, rfl, fr1⟩ ?_ ?_⟩
  · rintro i σ H2 hi ⟨vs, u, rfl, hv, hD2, hlen, fr⟩
    refine drawn_turn (E := E) hD2 nl hv (by omega) fun v H3 hv3 hD3 fr3 => ?_
    refine ⟨vs ++ [v], _, rfl, hv3, hD3, by rw [List.length_append, hlen]; rfl, fun b o nb nl2 hb => fr3 b o nb nl2 (fr b o nb nl2 hb)⟩
  · rintro σ H2 ⟨vs, u, rfl, ⟨⟨xs, hl2, hall⟩, hc⟩, hD2, hlen, fr⟩
    refine ⟨_, rfl, l, xs, rfl, .inl ⟨SqL.of hl2, fun t ht => ?_⟩⟩
    have e2 := ex_new (o := .tup xs) ht
    refine ⟨_, rfl, ?_⟩
    unfold sp_law_below
    refine ⟨d, 3, rfl, dst_ex e2 hD2, by decide, by decide, fun r2 H3 q0 q3 hD3 f3 => ?_⟩
    refine ⟨1, r2, rfl, rfl, (by show 2 ≤ sizeLine; decide), fun t2 ht2 => ?_⟩
    have e4 := ex_new (o := .tup [.ref t, .int (1 + r2)]) ht2
    have dv : Dp K (upd H2 t (.tup xs)) (.ref t) (vsD vs) := .tup (SqT.of upd_same) (dpa_ex e2 hall)
    have dv3 := dp_fxN (dst_noT (dst_ex e2 hD2)) f3 (vsD_flat vs) dv
    refine k (.ref t2) vs (1 + r2) _ ⟨by omega, by omega, hc, by omega, by omega⟩ (.tup (SqT.of upd_same) (.cons (dp_ex e4 dv3) (.cons (.int _) .nil))) (dst_ex e4 hD3) fun b o nb hb => ?_
    have nbl : b ≠ l := fun z => by
      rw [z, hl] at hb
      cases hb
    exact e4 _ _ (f3 b o nb (e2 _ _ (fr b o nb nbl hb)))

end Z
namespace Z
open PySem PySem.Spec PyProof.Rows L2
local macro_rules | `(tactic| walk_at "look") => `(tactic| first | assumption | exact upd_same | exact SqL.of (by assumption) | exact SqT.of (by assumption) | exact SqL.of upd_same | exact SqT.of upd_same)
local macro_rules | `(tactic| walk_at "at") => `(tactic| first | exact at0 | exact at1 | exact at2 | exact at3 | exact ix0 | exact ix1 | assumption | exact atI_nat (by rfl))
local macro_rules | `(tactic| walk_at "sd") => `(tactic| ((try dsimp only); first | assumption | omega | (unfold CMul; omega) | (unfold CDiv; omega) | (unfold CPow; decide) | decide))
local macro_rules | `(tactic| walk_at "st") => `(tactic| first
  | (refine ⟨_, rfl, ?_⟩)
  | (refine ⟨_, _, rfl, rfl, ?_⟩)
  | (refine ⟨rfl, ?_⟩)
  | (refine .inl ⟨_, rfl, ?_⟩)
  | (refine ⟨_, _, _, _, rfl, rfl, (by walk_at "look"), (by walk_at "at"), ?_⟩)
  | (refine ⟨_, _, rfl, .inl (by walk_at "look"), ?_⟩)
  | (refine And.intro (by walk_at "sd") ?_)
  | fail "no step")
local macro_rules | `(tactic| walk_at "go") => `(tactic| repeat' (walk_at "st"))
local macro_rules | `(tactic| walk_at "ans") => `(tactic| (intro Q q; (repeat' (walk_at "st")); exact q))

/-! ### texts of rhymes -/
def lineV (v : Ve) : Str := wayS v.1 ++ " " ++ Str.ofString (toString v.2)
def headS (left : Int) : Str := "left " ++ Str.ofString (toString left)
def figS (m : Nat) : List Str := (List.range m).map fun (i : Nat) => Str.ofString (toString (1 + (i : Int)))
def linesS (vs : List Ve) (left : Int) : List Str := headS left :: vs.map lineV
def textS (vs : List Ve) (left : Int) : Str := Txt.join "" ((linesS vs left).map fun x => x ++ "\n")
theorem ve_fin {v : Ve} (h : 1 ≤ v.2 ∧ v.2 ≤ 6) : ∃ (b : Bool) (c : Fin 6), v = (b, ((c : Nat) : Int) + 1) := by
  obtain ⟨b, c⟩ := v
  refine ⟨b, ⟨(c - 1).toNat, ?_⟩, ?_⟩
  · have h1 := h.1
    have h2 := h.2
    dsimp only at h1 h2
    omega
  · have h1 := h.1
    dsimp only at h1 ⊢
    exact Prod.ext rfl (by show c = _; omega)
theorem lf_fin {l : Int} (h : 1 ≤ l ∧ l ≤ 3) : ∃ c : Fin 3, l = ((c : Nat) : Int) + 1 :=
  ⟨⟨(l - 1).toNat, by omega⟩, by show l = (((l - 1).toNat : Nat) : Int) + 1; omega⟩
theorem line_split (b : Bool) : ∀ c : Fin 6, Txt.split (lineV (b, ((c : Nat) : Int) + 1)) " " = [wayS b, Str.ofString (toString (((c : Nat) : Int) + 1))] := by
  intro c
  refine TL.map_tl_inj ?_
  rw [TL.split_spl _ _ (by decide +kernel) (by decide +kernel +revert)]
  revert b c
  decide +kernel
theorem head_split : ∀ c : Fin 3, Txt.split (headS (((c : Nat) : Int) + 1)) " " = [("left" : Str), Str.ofString (toString (((c : Nat) : Int) + 1))] := by
  intro c
  refine TL.map_tl_inj ?_
  rw [TL.split_spl _ _ (by decide +kernel) (by decide +kernel +revert)]
  revert c
  decide +kernel
/-- (head, number) of a row, or none -/
def numIn (line : Str) (heads : List Str) (m : Nat) : Option (Str × Int) :=
  match Txt.split line " " with
  | [a, b] => if heads.contains a && (figS m).contains b then (intText? b).map fun n => (a, n) else none
  | _ => none
theorem numIn_line {v : Ve} (h : 1 ≤ v.2 ∧ v.2 ≤ 6) : numIn (lineV v) ["back", "on"] 6 = some (wayS v.1, v.2) := by
  obtain ⟨b, c, rfl⟩ := ve_fin h
  unfold numIn
  rw [line_split b c]
  revert b c
  decide +kernel
theorem numIn_head {l : Int} (h : 1 ≤ l ∧ l ≤ 3) : numIn (headS l) [("left" : Str)] 3 = some (("left" : Str), l) := by
  obtain ⟨c, rfl⟩ := lf_fin h
  unfold numIn
  rw [head_split c]
  revert c
  decide +kernel
theorem line_len {v : Ve} (h : 1 ≤ v.2 ∧ v.2 ≤ 6) : (lineV v).length ≤ 6 := by
  obtain ⟨b, c, rfl⟩ := ve_fin h
  revert b c
  decide +kernel
theorem head_len {l : Int} (h : 1 ≤ l ∧ l ≤ 3) : (headS l).length ≤ 6 := by
  obtain ⟨c, rfl⟩ := lf_fin h
  revert c
  decide +kernel
theorem line_f {v : Ve} (h : 1 ≤ v.2 ∧ v.2 ≤ 6) : Str.empty ++ wayS v.1 ++ " " ++ Str.ofString (toString v.2) = lineV v := by
  obtain ⟨b, c, rfl⟩ := ve_fin h
  revert b c
  decide +kernel
theorem head_f {l : Int} (h : 1 ≤ l ∧ l ≤ 3) : Str.empty ++ "left " ++ Str.ofString (toString l) = headS l := by
  obtain ⟨c, rfl⟩ := lf_fin h
  revert c
  decide +kernel
theorem line_no {v : Ve} (h : 1 ≤ v.2 ∧ v.2 ≤ 6) : ¬ 10 ∈ TL.tl (lineV v) := by
  obtain ⟨b, c, rfl⟩ := ve_fin h
  revert b c
  decide +kernel
theorem head_no {l : Int} (h : 1 ≤ l ∧ l ≤ 3) : ¬ 10 ∈ TL.tl (headS l) := by
  obtain ⟨c, rfl⟩ := lf_fin h
  revert c
  decide +kernel
theorem small_log {i : Int} (h : 0 ≤ i) (h2 : i ≤ 6) : i.natAbs.log2 < 1920 := by
  obtain ⟨c, rfl⟩ : ∃ c : Fin 7, i = ((c : Nat) : Int) := ⟨⟨i.toNat, by omega⟩, by show i = ((i.toNat : Nat) : Int); omega⟩
  revert c
  decide +kernel
theorem figS_get {m i : Nat} (h : i < m) : (figS m)[i]? = some (Str.ofString (toString (1 + (i : Int)))) := by
  unfold figS
  rw [List.getElem?_map, List.getElem?_range h]
  rfl
theorem inV_str (a : Str) : ∀ l : List Str, inV (.str a) (l.map V.str) = l.contains a
  | [] => rfl
  | b :: l => by
    have ih := inV_str a l
    unfold inV at ih ⊢
    rw [List.map_cons, List.any_cons, ih, List.contains_cons]
    congr 1
    show (b == a) = (a == b)
    exact Bool.eq_iff_iff.mpr ⟨fun z => by rw [eq_of_beq z]; exact beq_self_eq_true _, fun z => by rw [eq_of_beq z]; exact beq_self_eq_true _⟩
theorem flat_strs : ∀ l : List Str, (l.map V.str).all flatV = true
  | [] => rfl
  | b :: l => by
    rw [List.map_cons, List.all_cons, flat_strs l]
    rfl
/-- all rows, each with its end -/
def txL (ls : List (List Nat)) : List Nat := (ls.map fun l => l ++ [10]).flatten
theorem joinL_nil : ∀ ls : List (List Nat), TL.joinL [] ls = ls.flatten
  | [] => rfl
  | [p] => by
    show p = [p].flatten
    simp
  | p :: q :: r => by
    show p ++ ([] ++ TL.joinL [] (q :: r)) = _
    rw [joinL_nil (q :: r)]
    rfl
theorem tl_flat (ls : List Str) : TL.tl (Txt.join "" ls) = (ls.map TL.tl).flatten := by
  rw [TL.join_eq, TL.tl_join]
  exact joinL_nil _
theorem tl_text (ls : List Str) : TL.tl (Txt.join "" (ls.map fun x => x ++ "\n")) = txL (ls.map TL.tl) := by
  rw [tl_flat, txL, List.map_map, List.map_map]
  congr 1
  refine List.map_congr_left fun x _ => ?_
  show TL.tl (x ++ "\n") = TL.tl x ++ [10]
  rw [TL.tl_append]
  rfl
theorem spl_text : ∀ ls : List (List Nat), (∀ p ∈ ls, 10 ∉ p) → TL.spl [10] 0 [] (txL ls) = ls ++ [[]]
  | [], _ => rfl
  | p :: ls, h => by
    have e : txL (p :: ls) = p ++ ([10] ++ txL ls) := by
      show (p ++ [10]) ++ txL ls = _
      rw [List.append_assoc]
    rw [e, TL.spl_part1 (h p (List.mem_cons_self ..)), spl_text ls fun q hq => h q (List.mem_cons_of_mem _ hq)]
    rfl
theorem split_rows (ls : List Str) (h : ∀ p ∈ ls, 10 ∉ TL.tl p) : Txt.split (Txt.join "" (ls.map fun x => x ++ "\n")) "\n" = ls ++ [("" : Str)] := by
  refine TL.map_tl_inj ?_
  rw [TL.split_spl _ _ (by decide +kernel) (TL.kind_ok (by decide +kernel)), tl_text]
  have e : TL.tl ("\n" : Str) = [10] := by decide +kernel
  rw [e, spl_text _ (fun p hp => ?_), List.map_append]
  · rfl
  · obtain ⟨q, hq, rfl⟩ := List.mem_map.mp hp
    exact h q hq
theorem split_text {vs : List Ve} {left : Int} (ok : RhOk vs left) : Txt.split (textS vs left) "\n" = linesS vs left ++ [("" : Str)] := by
  refine split_rows _ fun p hp => ?_
  rcases List.mem_cons.mp hp with rfl | hp
  · exact head_no ok.lf
  · obtain ⟨v, hv, rfl⟩ := List.mem_map.mp hp
    exact line_no (ok.cnt v hv)
theorem sum_le {b : Nat} : ∀ ls : List Nat, (∀ x ∈ ls, x ≤ b) → ls.sum ≤ ls.length * b
  | [], _ => by simp
  | x :: ls, h => by
    have := sum_le ls fun y hy => h y (List.mem_cons_of_mem _ hy)
    have h1 := h x (List.mem_cons_self ..)
    rw [List.sum_cons, List.length_cons, Nat.add_mul, Nat.one_mul]
    omega
theorem len_line (x : Str) : (x ++ "\n").length = x.length + 1 := by
  rw [TL.len_tl, TL.tl_append, List.length_append, ← TL.len_tl]
  rfl
theorem lines_len {vs : List Ve} {left : Int} (ok : RhOk vs left) : ∀ x ∈ linesS vs left, x.length ≤ 6 := fun x hx => by
  rcases List.mem_cons.mp hx with rfl | hx
  · exact head_len ok.lf
  · obtain ⟨v, hv, rfl⟩ := List.mem_map.mp hx
    exact line_len (ok.cnt v hv)
theorem lines_sum {vs : List Ve} {left : Int} (ok : RhOk vs left) : (((linesS vs left).map fun x => x ++ ("\n" : Str)).map (·.length)).sum ≤ 100 := by
  refine Nat.le_trans (sum_le (b := 7) _ fun n hn => ?_) ?_
  · obtain ⟨y, hy, rfl⟩ := List.mem_map.mp hn
    obtain ⟨x, hx, rfl⟩ := List.mem_map.mp hy
    have := lines_len ok x hx
    rw [len_line]
    omega
  · have := ok.l4
    rw [List.length_map, List.length_map]
    unfold linesS
    rw [List.length_cons, List.length_map]
    omega
theorem flat_len : ∀ ls : List (List Nat), ls.flatten.length = (ls.map List.length).sum
  | [] => rfl
  | a :: ls => by
    rw [List.flatten_cons, List.length_append, flat_len ls]
    rfl
theorem text_len {vs : List Ve} {left : Int} (ok : RhOk vs left) : (textS vs left).length ≤ 100 := by
  unfold textS
  have := lines_sum ok
  refine Nat.le_trans (Nat.le_of_eq ?_) this
  rw [TL.len_tl, tl_flat, flat_len, List.map_map]
  exact congrArg List.sum (List.map_congr_left fun x _ => (TL.len_tl _).symm)
/-! ### write -/
@[irreducible] def sp_write (K : PySem.W.Frag) : Sp := fun ws H Q _ => ∃ (a : Addr) (vs : List Ve) (left : Int), ws = [.ref a] ∧ RhAt K H a vs left ∧ RhOk vs left ∧ ∀ H', Ex H H' → Q (.str (textS vs left)) H'
def t_write_2 (K : PySem.W.Frag) (E : XK) : TS := (tRet (tBM K "str" (mJoin K) (tC (.str "")) (tCons (tLc (iList K (tVar 1)) (gName 4) tYes (tOp oAddS (tVar 4) (tC (.str "\n"))) [4]) tNil)))

def t_write_1 (K : PySem.W.Frag) (E : XK) : TS := tSeq (tDrop (tBM K "list" rExtend (tVar 1) (tCons (tLc (iTup K (tFld K (tVar 0) "own_verses")) (gTup K 2 (gCons (gName 2) (gCons (gName 3) gNil))) tYes (tJoined ((tFmt (tVar 2)) :: ((tC (.str " ")) :: ((tFmt (tVar 3)) :: [])))) [2, 3]) tNil))) (t_write_2 K E)

def t_write_0 (K : PySem.W.Frag) (E : XK) : TS := tSeq (tAsg (tLst (tCons (tJoined ((tC (.str "left ")) :: ((tFmt (tFld K (tVar 0) "own_left")) :: []))) tNil)) (gName 1)) (t_write_1 K E)

theorem pure_write {K : PySem.W.Frag} (T : RhC K) (ws : List V) (H : Hp) (Q : VK) (E : XK) (h : sp_write K ws H Q E) : t_write_0 K E { nx := fun _ H' => Q .non H', rt := Q } (start ["rhyme", "lines", "way", "count", "line"] ws) H := by
  unfold sp_write at h
  obtain ⟨a, vs, left, rfl, R, ok, k⟩ := h
  show t_write_0 K E _ [some (.ref a), none, none, none, none] H
  obtain ⟨dx, tv, tr, h1, h2, h3⟩ := id R
  obtain ⟨tva, xs, rfl, hs, hall⟩ := dp_tup h2
  have hl : xs.length = vs.length := by
    have := dpa_len hall
    rw [List.length_map] at this
    exact this
  have hlen : ∀ x : Str, x.length ≤ 20 → x.length ≤ sizeLine := fun x hx => Nat.le_trans hx (by decide)
  refine ⟨_, rfl, (by show (Str.empty ++ ("left " : Str)).length ≤ sizeLine; decide +kernel), _, rfl, a, _, dx, _, _, rfl, h1, T.cl, T.nl, rhF_l _ _ _, .inr ⟨left, rfl, small_log (by have := ok.lf; omega) (by have := ok.lf; omega), _, rfl, ?_, ?_⟩⟩
  · rw [head_f ok.lf]
    exact hlen _ (Nat.le_trans (head_len ok.lf) (by decide))
  rw [head_f ok.lf]
  refine ⟨(by show 1 ≤ sizeLine; decide), fun p hp => ?_⟩
  have e1 := ex_new (o := .lst [.str (headS left)]) hp
  refine ⟨_, rfl, .inl ⟨rfl, _, SqL.of upd_same⟩, ?_⟩
  refine ⟨_, rfl, a, _, dx, _, _, rfl, e1 _ _ h1, T.cl, T.nv, rhF_v _ _ _, tva, rfl, ⟨xs, sqt_ex e1 hs⟩, fun q hq => lc_map walk_tup (fun i => .str ((vs.map lineV).getD i "")) hq (by rw [hl]; exact Nat.lt_of_le_of_lt ok.l4 (by decide)) (fun H3 e => sqt_ex (ex_trans e1 e) hs) ?_ ?_⟩
  · rintro i x H3 H4 hi e ⟨rfl, hx⟩ Q Zf qq
    obtain ⟨ve, t, hve, rfl, ht⟩ := vs_at hall hx
    have hv := ok.cnt ve (List.mem_of_getElem? hve)
    refine ⟨t, _, rfl, sqt_ex (ex_trans e1 e) ht, rfl, _, _, rfl, _, _, rfl, rfl, rfl, ?_⟩
    refine iteT (B := Zf H4) ?_
    have er : (vs.map lineV).getD i "" = lineV ve := by
      rw [List.getD_eq_getElem?_getD, List.getElem?_map, hve]
      rfl
    rw [er] at qq
    have w20 : (wayS ve.1).length ≤ 4 := by cases ve.1 <;> decide +kernel
    have g1 : (Str.empty ++ wayS ve.1).length ≤ sizeLine := by cases ve.1 <;> decide +kernel
    have g2 : (Str.empty ++ wayS ve.1 ++ " ").length ≤ sizeLine := by cases ve.1 <;> decide +kernel
    refine ⟨_, rfl, .inl ⟨_, rfl, hlen _ (Nat.le_trans w20 (by decide)), _, rfl, g1, _, rfl, g2, _, rfl, .inr ⟨_, rfl, small_log (by omega) hv.2, _, rfl, ?_, ?_⟩⟩⟩
    · rw [line_f hv]
      exact hlen _ (Nat.le_trans (line_len hv) (by decide))
    · rw [line_f hv]
      exact qq H4 (ex_refl _)
  · intro H3 e3 hq3
    have e4 : (List.range xs.length).map (fun i => V.str ((vs.map lineV).getD i "")) = (vs.map lineV).map V.str := map_range_get (vs.map lineV) V.str "" (by rw [List.length_map]; exact hl)
    rw [e4] at hq3
    refine ⟨p, q, _, _, rfl, rfl, e3 _ _ upd_same, hq3, ?_, ?_⟩
    · rw [List.length_map, List.length_map]
      exact Nat.le_trans (Nat.add_le_add_left ok.l4 _) (by show 1 + 4 ≤ sizeLine; decide)
    have e5 : Ex H (upd H3 p (.lst ([V.str (headS left)] ++ (vs.map lineV).map V.str))) := ex_mut (ex_trans e1 e3) hp
    refine ⟨rfl, ?_⟩
    have hp5 : SqL K (upd H3 p (.lst ([V.str (headS left)] ++ (vs.map lineV).map V.str))) p ((linesS vs left).map V.str) := SqL.of upd_same
    refine ⟨_, rfl, p, rfl, ⟨_, hp5⟩, fun r hr => lc_map walk_list (fun i => .str ((linesS vs left).getD i "" ++ "\n")) hr (by rw [List.length_map]; unfold linesS; rw [List.length_cons, List.length_map]; exact Nat.lt_of_le_of_lt (Nat.succ_le_succ ok.l4) (by decide)) (fun H6 e6 => sq_ex e6 hp5) ?_ ?_⟩
    · rintro i x H6 H7 hi e6 ⟨rfl, hx⟩ Q Zf qq
      rw [List.getElem?_map] at hx
      cases hy : (linesS vs left)[i]? with
      | none =>
        rw [hy] at hx
        cases hx
      | some y =>
        rw [hy] at hx
        have ex : V.str y = x := Option.some.inj hx
        subst ex
        refine ⟨rfl, iteT (B := Zf H7) ?_⟩
        have er : (linesS vs left).getD i "" = y := by
          rw [List.getD_eq_getElem?_getD, hy]
          rfl
        rw [er] at qq
        have hyl := lines_len ok y (List.mem_of_getElem? hy)
        exact ⟨_, rfl, _, _, rfl, rfl, (Nat.le_trans (Nat.add_le_add_right hyl _) (by decide +kernel)), qq _ (ex_refl _)⟩
    · intro H6 e6 hr6
      have e7 : (List.range ((linesS vs left).map V.str).length).map (fun i => V.str ((linesS vs left).getD i "" ++ "\n")) = ((linesS vs left).map fun x => x ++ ("\n" : Str)).map V.str := by
        rw [List.map_map]
        exact map_range_get (linesS vs left) (fun x => V.str (x ++ "\n")) "" (by rw [List.length_map])
      rw [e7] at hr6
      refine ⟨_, r, _, rfl, rfl, .inl (SqL.of hr6), ?_, ?_⟩
      · have := lines_sum ok
        rw [show ("" : Str).length = 0 from by decide +kernel, Nat.mul_zero]
        omega
      · exact k _ (ex_trans e5 e6)
/-! ### figures -/
@[irreducible] def sp_figures (K : PySem.W.Frag) : Sp := fun ws H Q _ => ∃ m : Nat, ws = [.int m] ∧ m ≤ 6 ∧ ∀ (p : Addr) (H' : Hp), H p = none → Ex H H' → H' p = some (.lst ((figS m).map V.str)) → Q (.ref p) H'
def t_figures_0 (K : PySem.W.Frag) (E : XK) : TS := (tRet (tLc (iRng2 (tCons (tC (.int 1)) (tCons (tOp oAdd (tVar 0) (tC (.int 1))) tNil))) (gName 1) tYes (tCB cStr (tCons (tVar 1) tNil)) [1]))

theorem pure_figures {K : PySem.W.Frag} (ws : List V) (H : Hp) (Q : VK) (E : XK) (h : sp_figures K ws H Q E) : t_figures_0 K E { nx := fun _ H' => Q .non H', rt := Q } (start ["most", "number"] ws) H := by
  unfold sp_figures at h
  obtain ⟨m, rfl, hm, k⟩ := h
  show t_figures_0 K E _ [some (.int m), none] H
  have h7 : (7 : Nat) < sizeLine := by decide
  have hsz : ((m : Int) + 1 - 1).toNat < sizeLine := by omega
  refine ⟨_, rfl, (m : Int), 1, rfl, rfl, 1, (m : Int) + 1, rfl, ⟨by omega, by omega, by omega, by omega⟩, fun p hp => lc_map walk_range (fun i => .str (Str.ofString (toString (1 + (i : Int))))) hp hsz (fun _ _ => trivial) ?_ ?_⟩
  · rintro i x H3 H4 hi e ⟨rfl, rfl⟩ Q Zf q
    refine ⟨rfl, iteT (B := Zf H4) ⟨_, rfl, _, rfl, small_log (by omega) (by omega), q _ (ex_refl _)⟩⟩
  · intro H3 e h3
    refine k p H3 hp e ?_
    rw [h3, figS, List.map_map]
    have : ((m : Int) + 1 - 1).toNat = m := by omega
    rw [this]
    rfl
/-! ### number_in -/
def NumAt (H : Hp) (v : V) : Option (Str × Int) → Prop
  | none => v = .non
  | some (a, n) => ∃ p, v = .ref p ∧ H p = some (.tup [.str a, .int n])
@[irreducible] def sp_number_in (K : PySem.W.Frag) : Sp := fun ws H Q _ => ∃ (line : Str) (h : Addr) (heads : List Str) (m : Nat), ws = [.str line, .ref h, .int m] ∧ SqT K H h (heads.map V.str) ∧ m ≤ 6 ∧ line.length + 2 ≤ sizeLine ∧
  ∀ (v : V) (H' : Hp), Ex H H' → NumAt H' v (numIn line heads m) → Q v H'
def t_number_in_1a_0 (K : PySem.W.Frag) (E : XK) : TS := (tRet (tC .non))

def t_number_in_2 (K : PySem.W.Frag) (E : XK) : TS := (tRet (tTup (tCons (tOp (rIxL K) (tVar 3) (tC (.int 0))) (tCons (tCB cIntS (tCons (tOp (rIxL K) (tVar 3) (tC (.int 1))) tNil)) tNil))))

@[irreducible] def t_number_in_1 (K : PySem.W.Frag) (E : XK) : TS := tSeq (tIfS (tOr (tTest (tOp rNe (tCB (cLen K) (tCons (tVar 3) tNil)) (tC (.int 2)))) (tOr (tTest (tOp (rIn K true) (tOp (rIxL K) (tVar 3) (tC (.int 0))) (tVar 1))) (tTest (tOp (rIn K true) (tOp (rIxL K) (tVar 3) (tC (.int 1))) (tCall (sp_figures K) [] E0 (tCons (tVar 2) tNil))))))
    (t_number_in_1a_0 K E) tNext) (t_number_in_2 K E)

def t_number_in_0 (K : PySem.W.Frag) (E : XK) : TS := tSeq (tAsg (tBM K "str" mSplit (tVar 0) (tCons (tC (.str " ")) tNil)) (gName 3)) (t_number_in_1 K E)

theorem fig_ok {b : Str} {m : Nat} (hm : m ≤ 6) (h : (figS m).contains b = true) : ∃ n, intText? b = some n ∧ b.length ≤ 640 := by
  unfold figS at h
  obtain ⟨i, hi0, rfl⟩ := List.mem_map.mp (List.contains_iff_mem.mp h)
  have hi := List.mem_range.mp hi0
  obtain ⟨c, rfl⟩ : ∃ c : Fin 6, i = (c : Nat) := ⟨⟨i, by omega⟩, rfl⟩
  refine ⟨1 + ((c : Nat) : Int), ?_⟩
  clear h hi hi0
  revert c
  decide +kernel
theorem pure_number_in {K : PySem.W.Frag} (ws : List V) (H : Hp) (Q : VK) (E : XK) (h : sp_number_in K ws H Q E) : t_number_in_0 K E { nx := fun _ H' => Q .non H', rt := Q } (start ["line", "heads", "most", "words"] ws) H := by
  unfold sp_number_in at h
  obtain ⟨line, h, heads, m, rfl, hh, hm, hlen, k⟩ := h
  show t_number_in_0 K E _ [some (.str line), some (.ref h), some (.int m), none] H
  refine ⟨_, rfl, rfl, _, _, rfl, rfl, (by decide +kernel), hlen, fun p hp => ?_⟩
  show t_number_in_1 K E _ [some (.str line), some (.ref h), some (.int m), some (.ref p)] _
  have e1 := ex_new (o := .lst ((Txt.split line " ").map V.str)) hp
  have hP : SqL K (upd H p (.lst ((Txt.split line " ").map V.str))) p ((Txt.split line " ").map V.str) := SqL.of upd_same
  generalize upd H p (.lst ((Txt.split line " ").map V.str)) = H1 at e1 hP
  unfold t_number_in_1
  cases hs : Txt.split line " " with
  | nil =>
    rw [hs] at hP
    refine if_go true (fun Q q => or_go true true (fun Q q => ⟨_, rfl, p, _, rfl, .inl hP, rfl, _, rfl, q⟩) (fun z => nomatch z) q) (fun _ => ?_) (fun z => nomatch z)
    refine k _ _ e1 ?_
    unfold numIn
    rw [hs]
    exact rfl
  | cons a r =>
    cases r with
    | nil =>
      rw [hs] at hP
      refine if_go true (fun Q q => or_go true true (fun Q q => ⟨_, rfl, p, _, rfl, .inl hP, rfl, _, rfl, q⟩) (fun z => nomatch z) q) (fun _ => ?_) (fun z => nomatch z)
      refine k _ _ e1 ?_
      unfold numIn
      rw [hs]
      exact rfl
    | cons b r =>
      cases r with
      | cons c r =>
        rw [hs] at hP
        have hne : (!decide (V.int (((a :: b :: c :: r).map V.str).length : Int) = V.int 2)) = true := by
          rw [d_int, List.length_map, List.length_cons, List.length_cons, List.length_cons, decide_eq_false (by omega)]
          rfl
        refine if_go true (fun Q q => or_go true true (fun Q q => ⟨_, rfl, p, _, rfl, .inl hP, rfl, _, rfl, by rw [hne]; exact q⟩) (fun z => nomatch z) q) (fun _ => ?_) (fun z => nomatch z)
        refine k _ _ e1 ?_
        unfold numIn
        rw [hs]
        exact rfl
      | nil =>
        rw [hs] at hP
        have hN : numIn line heads m = if heads.contains a && (figS m).contains b then (intText? b).map fun n => (a, n) else none := by
          unfold numIn
          rw [hs]
        rw [hN] at k
        refine if_goH (!(heads.contains a && (figS m).contains b)) (fun Q q => ?_) (fun H2 e2 c => ?_) (fun H2 e2 c => ?_)
        · refine ⟨_, rfl, p, _, rfl, .inl hP, rfl, _, rfl, iteF ?_⟩
          refine ⟨_, rfl, p, _, 0, _, rfl, rfl, hP, at0, _, rfl, h, _, rfl, .inr (sqt_ex e1 hh), rfl, flat_strs _, ?_⟩
          show ∃ k, V.bl (!inV (.str a) (heads.map V.str)) = .bl k ∧ _
          rw [inV_str]
          refine ⟨_, rfl, ?_⟩
          cases hc : heads.contains a with
          | false =>
            rw [hc] at q
            exact iteT (q _ (ex_refl _))
          | true =>
            rw [hc] at q
            refine iteF ⟨_, rfl, p, _, 1, _, rfl, rfl, hP, at1, _, rfl, ?_⟩
            unfold sp_figures
            refine ⟨m, rfl, hm, fun g H3 hg e3 hf => ⟨g, _, rfl, .inl (SqL.of hf), rfl, flat_strs _, ?_⟩⟩
            show ∃ k, V.bl (!inV (.str b) ((figS m).map V.str)) = .bl k ∧ _
            rw [inV_str]
            exact ⟨_, rfl, q _ e3⟩
        · refine k _ _ (ex_trans e1 e2) ?_
          rw [if_neg (by intro z; rw [z] at c; cases c)]
          exact rfl
        · have c2 : (heads.contains a && (figS m).contains b) = true := by
            cases z : (heads.contains a && (figS m).contains b) with
            | true => rfl
            | false => rw [z] at c; cases c
          obtain ⟨n, hn, hbl⟩ := fig_ok hm (Bool.and_eq_true_iff.mp c2).2
          rw [if_pos c2, hn] at k
          refine ⟨_, rfl, p, _, 0, _, rfl, rfl, sq_ex e2 hP, at0, _, rfl, p, _, 1, _, rfl, rfl, sq_ex e2 hP, at1, b, n, rfl, hn, hbl, (by show 2 ≤ sizeLine; decide), fun t ht => ?_⟩
          exact k _ _ (ex_trans (ex_trans e1 e2) (ex_new ht)) ⟨t, rfl, upd_same⟩
/-! ### read, of a right text -/
@[irreducible] def sp_read (K : PySem.W.Frag) : Sp := fun ws H Q _ => ∃ (vs : List Ve) (left : Int), ws = [.str (textS vs left)] ∧ RhOk vs left ∧ ∀ (p : Addr) (H' : Hp), H p = none → Ex H H' → RhAt K H' p vs left → Q (.ref p) H'
/-- the constant WAYS -/
def WaysK (K : PySem.W.Frag) : Prop := ∀ H, SqT K H (He.ga K "WAYS") [.str "back", .str "on"]
/-- what the rows tell -/
def toldD (vs : List Ve) (left : Int) : List PyData := .tuple [.str "left", .int left] :: vs.map vD
theorem toldD_flat (vs : List Ve) (left : Int) : flatDs (toldD vs left) = true := by
  show (true && flatDs (vs.map vD)) = true
  rw [Bool.true_and]
  exact vsD_flat vs
def t_read_2a_1a_0 (K : PySem.W.Frag) (E : XK) : TS := tNever

def t_read_2a_2 (K : PySem.W.Frag) (E : XK) : TS := (tDrop (tBM K "list" rAppend (tVar 2) (tCons (tVar 5) tNil)))

@[irreducible] def t_read_2a_1 (K : PySem.W.Frag) (E : XK) : TS := tSeq (tIfS (tOr (tTest (tOp oIsN (tVar 5) (tC .non))) (tTest (tOp oGt (tVar 3) (tC (.int 4)))))
    (t_read_2a_1a_0 K E) tNext) (t_read_2a_2 K E)

def t_read_2a_0 (K : PySem.W.Frag) (E : XK) : TS := tSeq (tAsg (tIf (tTest (tOp rEq (tVar 3) (tC (.int 0)))) (tCall (sp_number_in K) [] E0 (tCons (tVar 4) (tCons (tTup (tCons (tC (.str "left")) tNil)) (tCons (tC (.int 3)) tNil)))) (tCall (sp_number_in K) [] E0 (tCons (tVar 4) (tCons (tC (.ref (He.ga K "WAYS"))) (tCons (tC (.int 6)) tNil))))) (gName 5)) (t_read_2a_1 K E)

def t_read_3a_0 (K : PySem.W.Frag) (E : XK) : TS := tNever

def t_read_4 (K : PySem.W.Frag) (E : XK) : TS := (tRet (tMake (He.ga K "Rhyme") (sp_Rhymeu_initu K) [] E0 (tCons (tCB (cTup K) (tCons (tSl (rSlL K) (tVar 2) (tPart (tC (.int 1))) tNoPart) tNil)) (tCons (tOp (rIxT K) (tOp (rIxL K) (tVar 2) (tC (.int 0))) (tC (.int 1))) tNil))))

@[irreducible] def t_read_3 (K : PySem.W.Frag) (E : XK) : TS := tSeq (tIfS (tOr (tTest (tOp rNe (tOp (rIxL K) (tVar 1) (tUn oNeg (tC (.int 1)))) (tC (.str "")))) (tTest (tOp oLt (tCB (cLen K) (tCons (tVar 2) tNil)) (tC (.int 2)))))
    (t_read_3a_0 K E) tNext) (t_read_4 K E)

@[irreducible] def t_read_2 (K : PySem.W.Frag) (E : XK) : TS := tSeq (tFor (iEnum K (tCons (tSl (rSlL K) (tVar 1) tNoPart (tPart (tUn oNeg (tC (.int 1))))) tNil)) (gTup K 2 (gCons (gName 3) (gCons (gName 4) gNil)))
    (t_read_2a_0 K E)) (t_read_3 K E)

def t_read_1 (K : PySem.W.Frag) (E : XK) : TS := tSeq (tAsg (tLst tNil) (gName 2)) (t_read_2 K E)

def t_read_0 (K : PySem.W.Frag) (E : XK) : TS := tSeq (tAsg (tBM K "str" mSplit (tVar 0) (tCons (tC (.str "\n")) tNil)) (gName 1)) (t_read_1 K E)

theorem flatDs_take : ∀ (l : List PyData) (n : Nat), flatDs l = true → flatDs (l.take n) = true
  | [], n, _ => by rw [List.take_nil]; rfl
  | d :: l, 0, _ => rfl
  | d :: l, n + 1, h => by
    have h2 := Bool.and_eq_true_iff.mp (show (flatD d && flatDs l) = true from h)
    show (flatD d && flatDs (l.take n)) = true
    rw [h2.1, flatDs_take l n h2.2]
    rfl
theorem dpa_drop {K : PySem.W.Frag} {H : Hp} : ∀ (n : Nat) {vs : List V} {ds : List PyData}, DpAll K H vs ds → DpAll K H (vs.drop n) (ds.drop n)
  | 0, _, _, h => h
  | n + 1, _, _, .nil => .nil
  | n + 1, _, _, .cons _ r => dpa_drop n r
theorem cut_init (xs : List V) (y : V) : cutV (xs ++ [y]) none (some (-1)) = xs := by
  show ((xs ++ [y]).drop 0).take ((-1 + ((xs ++ [y]).length : Int)).toNat - 0) = xs
  have e : (-1 + ((xs ++ [y]).length : Int)).toNat - 0 = xs.length := by
    rw [List.length_append, List.length_singleton]
    omega
  rw [e, List.drop_zero, List.take_left]
theorem cut_tail (x : V) (xs : List V) : cutV (x :: xs) (some 1) none = xs := by
  unfold cutV HT.sIx
  simp
theorem at_last (xs : List V) (y : V) : atI (xs ++ [y]) (-1) = some y := by
  unfold atI ixN
  rw [if_neg (by omega), if_pos (by rw [List.length_append, List.length_singleton]; omega)]
  have e : (-1 + ((xs ++ [y]).length : Int)).toNat = xs.length := by
    rw [List.length_append, List.length_singleton]
    omega
  show (xs ++ [y])[(-1 + ((xs ++ [y]).length : Int)).toNat]? = _
  rw [e, List.getElem?_append_right (Nat.le_refl _), Nat.sub_self]
  rfl
theorem numIn_rows {vs : List Ve} {left : Int} (ok : RhOk vs left) {i : Nat} {y : Str} (h : (linesS vs left)[i]? = some y) :
    ∃ (a : Str) (n : Int), (toldD vs left)[i]? = some (.tuple [.str a, .int n]) ∧ (if i = 0 then numIn y [("left" : Str)] 3 else numIn y [("back" : Str), "on"] 6) = some (a, n) := by
  cases i with
  | zero =>
    have e : headS left = y := Option.some.inj h
    subst e
    exact ⟨"left", left, rfl, numIn_head ok.lf⟩
  | succ i =>
    have h2 : (vs.map lineV)[i]? = some y := h
    rw [List.getElem?_map] at h2
    cases hv : vs[i]? with
    | none =>
      rw [hv] at h2
      cases h2
    | some v =>
      rw [hv] at h2
      have e : lineV v = y := Option.some.inj h2
      subst e
      refine ⟨wayS v.1, v.2, ?_, numIn_line (ok.cnt v (List.mem_of_getElem? hv))⟩
      show (vs.map vD)[i]? = _
      rw [List.getElem?_map, hv]
      rfl
theorem read_turn {K : PySem.W.Frag} {E : XK} {D : Ends} {x1 x2 : Option V} {q : Addr} {u : Option V} {i : Nat} {y : Str} {vs : List Ve} {left : Int} {xs : List V} {H : Hp} (W : WaysK K) (ok : RhOk vs left) (hi : i < vs.length + 1)
    (hy : (linesS vs left)[i]? = some y) (hq : H q = some (.lst xs)) (hall : DpAll K H xs ((toldD vs left).take i))
    (k : ∀ (t : V) (xs' : List V) (H' : Hp), Fx q H H' → H' q = some (.lst xs') → DpAll K H' xs' ((toldD vs left).take (i + 1)) → D.nx [x1, x2, some (.ref q), some (.int (i : Nat)), some (.str y), some t] H') :
    t_read_2a_0 K E D [x1, x2, some (.ref q), some (.int (i : Nat)), some (.str y), u] H := by
  obtain ⟨a, n, hD, hN⟩ := numIn_rows ok hy
  have hyl : y.length + 2 ≤ sizeLine := Nat.le_trans (Nat.add_le_add_right (lines_len ok y (List.mem_of_getElem? hy)) 2) (by decide)
  have rest : ∀ (t : V) (H' : Hp), Ex H H' → NumAt H' t (some (a, n)) → t_read_2a_1 K E D [x1, x2, some (.ref q), some (.int (i : Nat)), some (.str y), some t] H' := by
    rintro t H' e ⟨p, rfl, hp⟩
    unfold t_read_2a_1
    refine if_go false (fun Q z => ?_) (fun z => nomatch z) (fun _ => ?_)
    · refine ⟨_, rfl, rfl, _, rfl, iteF ?_⟩
      refine ⟨_, rfl, _, _, rfl, rfl, _, rfl, ?_⟩
      rw [decide_eq_false (show ¬ (4 : Int) < (i : Nat) from by have := ok.l4; omega)]
      exact z
    · refine ⟨_, rfl, .inl ⟨rfl, _, SqL.of (e _ _ hq)⟩, _, rfl, ?_⟩
      refine ⟨q, xs, _, rfl, rfl, e _ _ hq, ?_, ?_⟩
      · have := dpa_len hall
        rw [this, List.length_take]
        have h6 : (6 : Nat) < sizeLine := by decide
        have := ok.l4
        omega
      · refine k (.ref p) _ _ (fx_trans (fx_ex e) fx_upd) upd_same ?_
        rw [List.take_succ, hD]
        have nq : p ≠ q := fun z => by
          rw [z, e _ _ hq] at hp
          cases hp
        refine dpa_snoc (.tup (SqT.of (by rw [upd_ne nq]; exact hp)) (.cons (.str _) (.cons (.int _) .nil))) (dpa_fxN (noT_l (e _ _ hq)) fx_upd (flatDs_take _ _ (toldD_flat _ _)) (dpa_ex e hall))
  by_cases h0 : i = 0
  · rw [if_pos h0] at hN
    refine ⟨_, rfl, rfl, _, rfl, ?_⟩
    rw [d_int, decide_eq_true (by omega)]
    refine iteT ⟨_, rfl, (by show 1 ≤ sizeLine; decide), fun p hp => ?_⟩
    have e1 := ex_new (o := .tup [.str "left"]) hp
    unfold sp_number_in
    refine ⟨y, p, ["left"], 3, rfl, SqT.of upd_same, by decide, hyl, fun v H' e hv => ?_⟩
    rw [hN] at hv
    exact rest v H' (ex_trans e1 e) hv
  · rw [if_neg h0] at hN
    refine ⟨_, rfl, rfl, _, rfl, ?_⟩
    rw [d_int, decide_eq_false (by omega)]
    refine iteF ⟨_, rfl, ?_⟩
    unfold sp_number_in
    refine ⟨y, _, ["back", "on"], 6, rfl, W H, by decide, hyl, fun v H' e hv => ?_⟩
    rw [hN] at hv
    exact rest v H' e hv

end Z
namespace Z
open PySem PySem.Spec PyProof.Rows L2
local macro_rules | `(tactic| walk_at "look") => `(tactic| first | assumption | exact upd_same | exact SqL.of (by assumption) | exact SqT.of (by assumption) | exact SqL.of upd_same | exact SqT.of upd_same)
local macro_rules | `(tactic| walk_at "at") => `(tactic| first | exact at0 | exact at1 | exact at2 | exact at3 | exact ix0 | exact ix1 | assumption | exact atI_nat (by rfl))
local macro_rules | `(tactic| walk_at "sd") => `(tactic| ((try dsimp only); first | assumption | omega | (unfold CMul; omega) | (unfold CDiv; omega) | (unfold CPow; decide) | decide))
local macro_rules | `(tactic| walk_at "st") => `(tactic| first
  | (refine ⟨_, rfl, ?_⟩)
  | (refine ⟨_, _, rfl, rfl, ?_⟩)
  | (refine ⟨rfl, ?_⟩)
  | (refine .inl ⟨_, rfl, ?_⟩)
  | (refine ⟨_, _, _, _, rfl, rfl, (by walk_at "look"), (by walk_at "at"), ?_⟩)
  | (refine ⟨_, _, rfl, .inl (by walk_at "look"), ?_⟩)
  | (refine And.intro (by walk_at "sd") ?_)
  | fail "no step")
local macro_rules | `(tactic| walk_at "go") => `(tactic| repeat' (walk_at "st"))
local macro_rules | `(tactic| walk_at "ans") => `(tactic| (intro Q q; (repeat' (walk_at "st")); exact q))

theorem pure_read {K : PySem.W.Frag} (T : RhC K) (W : WaysK K) (ws : List V) (H : Hp) (Q : VK) (E : XK) (h : sp_read K ws H Q E) : t_read_0 K E { nx := fun _ H' => Q .non H', rt := Q } (start ["text", "lines", "found", "at", "line", "told"] ws) H := by
  unfold sp_read at h
  obtain ⟨vs, left, rfl, ok, k⟩ := h
  show t_read_0 K E _ [some (.str (textS vs left)), none, none, none, none, none] H
  refine ⟨_, rfl, rfl, _, _, rfl, rfl, (by decide +kernel), (Nat.le_trans (Nat.add_le_add_right (text_len ok) 2) (by decide)), fun p hp => ?_⟩
  rw [split_text ok, List.map_append, show ([("" : Str)].map V.str) = [V.str ""] from rfl]
  show t_read_1 K E _ [some (.str (textS vs left)), some (.ref p), none, none, none, none] _
  have e1 := ex_new (o := .lst ((linesS vs left).map V.str ++ [V.str ""])) hp
  refine ⟨Nat.zero_le _, fun q hq => ?_⟩
  show t_read_2 K E _ [some (.str (textS vs left)), some (.ref p), some (.ref q), none, none, none] _
  have e2 := ex_new (o := .lst []) hq
  have hP : SqL K (upd (upd H p (.lst ((linesS vs left).map V.str ++ [V.str ""]))) q (.lst [])) p ((linesS vs left).map V.str ++ [V.str ""]) := sq_ex e2 (SqL.of upd_same)
  have hP0 : (upd (upd H p (.lst ((linesS vs left).map V.str ++ [V.str ""]))) q (.lst [])) p = some (.lst ((linesS vs left).map V.str ++ [V.str ""])) := e2 _ _ upd_same
  have pq : p ≠ q := fun z => by
    rw [z, upd_same] at hq
    cases hq
  have nq : H q = none := ex_free e1 hq
  unfold t_read_2
  refine ⟨_, rfl, 1, rfl, _, rfl, p, _, rfl, hP, fun r hr => ?_⟩
  rw [cut_init]
  have e3 := ex_new (o := .lst ((linesS vs left).map V.str)) hr
  have rq : r ≠ q := fun z => by
    rw [z, upd_same] at hr
    cases hr
  have hlL : (linesS vs left).length = vs.length + 1 := by
    unfold linesS
    rw [List.length_cons, List.length_map]
  generalize hH3 : upd (upd (upd H p (.lst ((linesS vs left).map V.str ++ [V.str ""]))) q (.lst [])) r (.lst ((linesS vs left).map V.str)) = H3 at e3
  have hr3 : H3 r = some (.lst ((linesS vs left).map V.str)) := by
    rw [← hH3]
    exact upd_same
  have hq3 : H3 q = some (.lst []) := e3 _ _ upd_same
  have hp3 := e3 _ _ hP0
  have eH : Ex H H3 := ex_trans (ex_trans e1 e2) e3
  refine ⟨r, _, rfl, SqL.of hr3, for_it walk_enum (fun i σ H' => Fx q H3 H' ∧ ∃ u3 u4 u5 xs, σ = [some (.str (textS vs left)), some (.ref p), some (.ref q), u3, u4, u5] ∧ H' q = some (.lst xs) ∧ DpAll K H' xs ((toldD vs left).take i)) ⟨fx_refl _ _, none, none, none, [], rfl, hq3, .nil⟩ (fun i σ H' _ h => SqL.of (h.1 r _ rq hr3)) ?_ ?_⟩
  · rintro i x σ H4 H5 hi ⟨f, u3, u4, u5, xs, rfl, hx, hall⟩ ⟨t, y1, y2, rfl, ht, rfl, g1, g2⟩
    cases g1
    have g2 : ((linesS vs left).map V.str)[i]? = some y2 := g2
    rw [List.getElem?_map] at g2
    cases hy : (linesS vs left)[i]? with
    | none =>
      rw [hy] at g2
      cases g2
    | some y =>
      rw [hy] at g2
      have ey : V.str y = y2 := Option.some.inj g2
      subst ey
      have e5 := ex_new (o := .tup [.int (i : Nat), .str y]) ht
      refine ⟨t, _, rfl, SqT.of upd_same, rfl, _, _, rfl, _, _, rfl, rfl, ?_⟩
      rw [List.length_map, hlL] at hi
      refine read_turn (E := E) W ok hi hy (e5 _ _ hx) (dpa_ex e5 hall) fun tv xs' H' f2 hx' hall' => ?_
      exact ⟨fx_trans f (fx_trans (fx_ex e5) f2), _, _, _, xs', rfl, hx', hall'⟩
  · rintro σ H4 ⟨f, u3, u4, u5, xs, rfl, hx, hall⟩
    have hall : DpAll K H4 xs (toldD vs left) := by
      have : (toldD vs left).take ((linesS vs left).map V.str).length = toldD vs left := by
        refine List.take_of_length_le ?_
        rw [List.length_map, hlL]
        unfold toldD
        rw [List.length_cons, List.length_map]
        exact Nat.le_refl _
      rwa [this] at hall
    have hxl : xs.length = vs.length + 1 := by
      rw [dpa_len hall]
      unfold toldD
      rw [List.length_cons, List.length_map]
    have eH4 : Ex H H4 := ex_fx eH nq f
    show t_read_3 K E { nx := fun _ H' => Q .non H', rt := Q } [some (.str (textS vs left)), some (.ref p), some (.ref q), u3, u4, u5] H4
    unfold t_read_3
    refine if_go false (fun Q z => or_go false false (fun Q z => ?_) (fun _ Q z => ?_) z) (fun z => nomatch z) (fun _ => ?_)
    · exact ⟨_, rfl, 1, rfl, p, _, -1, _, rfl, rfl, SqL.of (f p _ pq hp3), at_last _ _, rfl, _, rfl, z⟩
    · refine ⟨_, rfl, q, xs, rfl, .inl (SqL.of hx), _, _, rfl, rfl, _, rfl, ?_⟩
      rw [decide_eq_false (by have := ok.l1; rw [hxl]; omega)]
      exact z
    · cases hall with
      | cons d0 dr =>
        rename_i x0 xs
        obtain ⟨a0, ys, rfl, hs0, ha0⟩ := dp_tup d0
        cases ha0 with
        | cons b1 r1 =>
          cases r1 with
          | cons b2 r2 =>
            cases r2
            have h2 := dp_int b2
            subst h2
            refine ⟨_, rfl, 1, rfl, q, _, rfl, SqL.of hx, fun l hl => ?_⟩
            rw [cut_tail]
            have e6 := ex_new (o := .lst xs) hl
            refine ⟨l, xs, rfl, .inl ⟨SqL.of upd_same, fun t ht => ?_⟩⟩
            have e7 := ex_new (o := .tup xs) ht
            have e67 := ex_trans e6 e7
            refine ⟨_, rfl, q, _, 0, _, rfl, rfl, sq_ex e67 (SqL.of hx), at0, a0, _, 1, _, rfl, rfl, sqt_ex e67 hs0, at1, fun o dp np nd ne => ?_⟩
            have ht5 : (upd (upd H4 l (.lst xs)) t (.tup xs)) t = some (.tup xs) := upd_same
            generalize upd (upd H4 l (.lst xs)) t (.tup xs) = H5 at e67 np nd ht5
            have e8 : Ex H5 (upd (upd H5 dp (.own o)) o (.ins (He.ga K "Rhyme") dp [])) := fun b u e => by
              rw [upd_ne (ne_of_none e np), upd_ne (ne_of_none e nd)]
              exact e
            unfold sp_Rhymeu_initu
            refine ⟨o, dp, _, vs, left, rfl, upd_same, dp_ex e8 (.tup (SqT.of ht5) (dpa_ex e67 dr)), ok, fun H' R f2 => ⟨rfl, ?_⟩⟩
            refine k o H' (ex_free eH4 (ex_free e67 np)) (fun b u hb => ?_) R
            have h5 := e67 _ _ (eH4 b u hb)
            exact f2 b u (e8 _ _ h5) (ne_of_none h5 np)

end Z
/-! A def's, a method's, a maker's promise, from what the top leaves of it. -/
namespace Z
open PySem PySem.Spec PyProof.Rows L2
def inClass : Stmt → Nat → Stmt
  | .ClassDef _ _ _ body _ _ _ _ _ _ _, j => body.getD j (.Pass ⟨0, 0, 0, 0⟩)
  | s, _ => s
section
variable {P : Program} {w : World} {K : PySem.W.Frag} {mg : Str → Option Value} {base : Heap} {N : List Str} {qual : Str} {f C : Addr}
theorem ck_of {x : Str} {st : Stmt} {ps : List Str} {k : Nat} {sp : Sp} (M : Mk K C f) (F : ∃ fd, FnT K "__init__" qual st [] f fd) (hm : mg x = some (.ref C)) (S : FnScope N ps (defScope st)) (len : ∀ vs H Q E, sp vs H Q E → vs.length = ps.length)
    (hb : ∀ (kV doc pm : Value) (an : Option Addr) (cdv ct : Value) (us : List Value), us.length = ps.length → bindArgs (PySem.W.fnOf "__init__" qual (defArgs st) (defBody st) (defScope st) .none kV doc pm an cdv ct) ⟨us, []⟩ = pure (ps.zip us))
    (body : ∀ (cdv : Value) (A : Around) (outer : List Env) (s : Shared) (H : Hp) (vs : List V) (Q : VK) (E : XK), Room k (A.deeper (envOfC qual (defScope st) s.heap.objs.size f cdv)) → sp vs H Q E →
      ∃ t, PSs (cxOf (L2.CX P w) P w K mg base N qual (defScope st) f cdv A outer s H E) (defBody st) t ∧ t { nx := fun _ H' => Q .non H', rt := Q } (start N vs) H) : Ck P w K mg base (k + 1) x C sp := by
  obtain ⟨fd, F⟩ := F
  exact ⟨f, fd, ps, M, F.ok S len body, hm, F.bindsN hb⟩
theorem cm_of {m : Str} {st : Stmt} {ps : List Str} {k : Nat} {sp : Sp} (c : Cls K C) (M : Meth K C m f) (F : ∃ fd, FnT K m qual st [] f fd) (S : FnScope N ps (defScope st)) (len : ∀ vs H Q E, sp vs H Q E → vs.length = ps.length)
    (hb : ∀ (kV doc pm : Value) (an : Option Addr) (cdv ct : Value) (us : List Value), us.length = ps.length → bindArgs (PySem.W.fnOf m qual (defArgs st) (defBody st) (defScope st) .none kV doc pm an cdv ct) ⟨us, []⟩ = pure (ps.zip us))
    (body : ∀ (cdv : Value) (A : Around) (outer : List Env) (s : Shared) (H : Hp) (vs : List V) (Q : VK) (E : XK), Room k (A.deeper (envOfC qual (defScope st) s.heap.objs.size f cdv)) → sp vs H Q E →
      ∃ t, PSs (cxOf (L2.CX P w) P w K mg base N qual (defScope st) f cdv A outer s H E) (defBody st) t ∧ t { nx := fun _ H' => Q .non H', rt := Q } (start N vs) H) : Cm P w K mg base (k + 1) C m sp := by
  obtain ⟨fd, F⟩ := F
  exact ⟨f, fd, ps, c, M, F.ok S len body, F.bindsN hb⟩
end
/-- what isinstance asks of an own class, by its Bools -/
def insB (K : PySem.W.Frag) (x : Str) : Bool :=
  (He.Fa.cls x).ok K && (He.eqO (PySem.W.findIn K (.ref (He.ga K x)) "__class__") (some (some (.builtin "object.__class__"))) && (He.eqO (PySem.W.specialIn K (.builtin "object.__class__") "__get__") (some (some (.builtin "getset_descriptor.__get__"))) &&
  (decide (PySem.W.takesIn K (.builtin "object.__class__") = some true) && (decide (PySem.W.mroIn K (He.ga K x) (.type "object") = some true) && decide (PySem.W.kitOne K (.ref (He.ga K x)) (.ref (He.ga K x)) = some true)))))
theorem insB_ok {K : PySem.W.Frag} {x : Str} (h : insB K x = true) : C8.InsC K (He.ga K x) := by
  unfold insB at h
  obtain ⟨h1, h⟩ := He.ba h
  obtain ⟨h2, h⟩ := He.ba h
  obtain ⟨h3, h⟩ := He.ba h
  obtain ⟨h4, h⟩ := He.ba h
  obtain ⟨h5, h6⟩ := He.ba h
  exact ⟨He.cls_ok h1, He.eqO_ok h2, He.eqO_ok h3, of_decide_eq_true h4, of_decide_eq_true h5, of_decide_eq_true h6⟩
/-- the walk's end, where what is let out leans on the world -/
theorem walk_ofW {ll : PySem.W.OpenLaw} {mm lv : Nat} {qv : Program} {ls : List Str} {XP : (Str → Option Value) → Heap → Prop} {YP : World → Heap → Prop} {dr : DefRec} {CW : World → CXT} {arg : Str}
    (hm : ll.most = some mm) (hz : mm ≤ sizeLine) (h0 : dr.params.defaults = []) (rm : Room lv callerA)
    (FF : ∀ (w : World) (mg : Str → Option Value) (fL : Addr) (hp : Heap), YP w hp → hp.Ns mainGlobals mg → mg dr.name = some (.ref fL) →
      ∃ (K : PySem.W.Frag) (fd : FuncData) (sp : Sp), K.In hp ∧ (∀ (s : Shared) (v : Value), BindsTo s fd ⟨[v], []⟩ [(arg, v)]) ∧
        (∀ (H : Hp) (a : Addr) (zs : List Int), zs.length ≤ mm → SqL K H a (zs.map V.int) → sp [.ref a] H (fun v _ => v = .bl true) fun _ _ _ => False) ∧
        ∀ bs : Heap, K.In bs → bs.Ns mainGlobals mg → FnOk ll.prog w K mg bs (CW w) lv fL fd [arg] sp)
    (no : ∀ (w : World) (H : Hp) (s : Shared) (e : Value) (s' : Shared), CW w [] H s (fun _ _ _ => False) e s' → False) :
    PySem.W.WalkO qv ls XP YP ll.row.toRowW dr [] (fun f vs => PySem.call f vs) := by
  refine Att.attach_call hm h0 fun w st su mg mb fL oo pm cd doc a vs zs GG YY ho hd hcd hmg hobj hints hlen hg => ?_
  obtain ⟨K, fd, sp, KX, hb, hsp, hF⟩ := FF w mg fL _ YY GG.T.g hmg
  refine law_call KX GG.T.g GG.T.b GG.T.builtins GG.T.nolimit hg hobj hints ?_ rm hF hb (fun H _ hS => hsp H a zs hlen hS) fun H e s' => no w H su e s'
  exact Nat.le_trans hlen hz
theorem noout {P : Program} {w : World} {H : Hp} {s s' : Shared} {e : Value} (z : L2.CX P w [] H s (fun _ _ _ => False) e s') : False := by
  obtain ⟨_, _, _, _, _, _, _, _, _, _, _, _, h⟩ := z
  exact h
end Z
namespace Z
open PySem PySem.Spec PyProof.Rows L2
local macro_rules | `(tactic| walk_at "look") => `(tactic| first | assumption | exact upd_same | exact SqL.of (by assumption) | exact SqT.of (by assumption) | exact SqL.of upd_same | exact SqT.of upd_same)
local macro_rules | `(tactic| walk_at "at") => `(tactic| first | exact at0 | exact at1 | exact at2 | exact at3 | exact ix0 | exact ix1 | assumption | exact atI_nat (by rfl))
local macro_rules | `(tactic| walk_at "sd") => `(tactic| ((try dsimp only); first | assumption | omega | (unfold CMul; omega) | (unfold CDiv; omega) | (unfold CPow; decide) | decide))
local macro_rules | `(tactic| walk_at "st") => `(tactic| first
  | (refine ⟨_, rfl, ?_⟩)
  | (refine ⟨_, _, rfl, rfl, ?_⟩)
  | (refine ⟨rfl, ?_⟩)
  | (refine .inl ⟨_, rfl, ?_⟩)
  | (refine ⟨_, _, _, _, rfl, rfl, (by walk_at "look"), (by walk_at "at"), ?_⟩)
  | (refine ⟨_, _, rfl, .inl (by walk_at "look"), ?_⟩)
  | (refine And.intro (by walk_at "sd") ?_)
  | fail "no step")
local macro_rules | `(tactic| walk_at "go") => `(tactic| repeat' (walk_at "st"))
local macro_rules | `(tactic| walk_at "ans") => `(tactic| (intro Q q; (repeat' (walk_at "st")); exact q))

theorem fig_len {i : Int} (h : 0 ≤ i) (h2 : i ≤ 6) : (Str.ofString (toString i)).length ≤ 1 := by
  obtain ⟨c, rfl⟩ : ∃ c : Fin 7, i = ((c : Nat) : Int) := ⟨⟨i.toNat, by omega⟩, by show i = ((i.toNat : Nat) : Int); omega⟩
  clear h h2
  revert c
  decide +kernel
theorem len_app (a b : Str) : (a ++ b).length = a.length + b.length := by
  rw [TL.len_tl, TL.tl_append, List.length_append, ← TL.len_tl, ← TL.len_tl]
theorem len_line1 {n : Nat} (h : n ≤ 200) : n ≤ sizeLine := Nat.le_trans h (by decide)
theorem law_text {vs : List Ve} {left : Int} (ok : RhOk vs left) : ("left " : Str) ++ Str.ofString (toString left) ++ "\n" ++ Txt.join "" ((vs.map lineV).map fun x => x ++ ("\n" : Str)) = textS vs left := by
  refine TL.ext_tl ?_
  unfold textS linesS headS
  rw [tl_text, TL.tl_append, tl_text, TL.tl_append]
  rfl
@[irreducible] def sp_law (K : PySem.W.Frag) : Sp := fun ws H Q _ => ∃ (a : Addr) (ns : List Int), ws = [.ref a] ∧ SqL K H a (ns.map V.int) ∧ ns.length ≤ 63 ∧ ∀ H', Q (.bl true) H'
def t_law_1a_2a_0 (K : PySem.W.Frag) (E : XK) : TS := (tRet (tC (.bl false)))

@[irreducible] def t_law_1a_2 (K : PySem.W.Frag) (E : XK) : TS := (tIfS (tOr (tTest (tOp rNe (tCall (sp_write K) [] E0 (tCons (tCall (sp_law_made K) [] E0 (tCons (tVar 3) tNil)) tNil)) (tVar 4))) (tNot (tTest (tOp (rEqI (He.ga K "Rhyme") (sp_Rhymeu_equ K) E0) (tCall (sp_read K) [] E0 (tCons (tVar 4) tNil)) (tCall (sp_law_made K) [] E0 (tCons (tVar 3) tNil))))))
    (t_law_1a_2a_0 K E) tNext)

def t_law_1a_1 (K : PySem.W.Frag) (E : XK) : TS := tSeq (tAsg (tOp oAddS (tOp oAddS (tOp oAddS (tC (.str "left ")) (tCB cStr (tCons (tOp (rIxT K) (tVar 3) (tC (.int 1))) tNil))) (tC (.str "\n"))) (tBM K "str" (mJoin K) (tC (.str "")) (tCons (tLc (iTup K (tOp (rIxT K) (tVar 3) (tC (.int 0)))) (gTup K 2 (gCons (gName 5) (gCons (gName 6) gNil))) tYes (tOp oAddS (tOp oAddS (tOp oAddS (tVar 5) (tC (.str " "))) (tCB cStr (tCons (tVar 6) tNil))) (tC (.str "\n"))) [5, 6]) tNil))) (gName 4)) (t_law_1a_2 K E)

def t_law_1a_0 (K : PySem.W.Frag) (E : XK) : TS := tSeq (tAsg (tCall (sp_law_drawn K) [] E0 (tCons (tVar 1) tNil)) (gName 3)) (t_law_1a_1 K E)

def t_law_2 (K : PySem.W.Frag) (E : XK) : TS := (tRet (tC (.bl true)))

@[irreducible] def t_law_1 (K : PySem.W.Frag) (E : XK) : TS := tSeq (tFor (iRng1 (tCons (tC (.int 3)) tNil)) (gName 2)
    (t_law_1a_0 K E)) (t_law_2 K E)

def t_law_0 (K : PySem.W.Frag) (E : XK) : TS := tSeq (tAsg (tCall (sp_law_random K) [] E0 (tCons (tVar 0) (tCons (tC (.int 909)) tNil))) (gName 1)) (t_law_1 K E)

theorem law_2 {K : PySem.W.Frag} {E : XK} {D : Ends} {x0 u2 u5 u6 : Option V} {d : Addr} {t : V} {vs : List Ve} {left : Int} {H : Hp} (ok : RhOk vs left) (hD : DSt H d) (hT : Dp K H t (tD vs left))
    (k : ∀ H', Ex H H' → D.nx [x0, some (.ref d), u2, some t, some (.str (textS vs left)), u5, u6] H') : t_law_1a_2 K E D [x0, some (.ref d), u2, some t, some (.str (textS vs left)), u5, u6] H := by
  unfold t_law_1a_2
  refine if_goH false (fun Q q => ?_) (fun _ _ z => nomatch z) (fun H' e _ => k H' e)
  refine ⟨_, rfl, ?_⟩
  unfold sp_law_made
  refine ⟨t, vs, left, rfl, hT, ok, fun p H1 hp e1 R1 => ?_⟩
  unfold sp_write
  refine ⟨p, vs, left, rfl, R1, ok, fun H2 e2 => ⟨_, rfl, rfl, _, rfl, ?_⟩⟩
  rw [decide_eq_true rfl]
  refine iteF ⟨_, rfl, ?_⟩
  unfold sp_read
  refine ⟨vs, left, rfl, ok, fun p2 H3 hp2 e3 R3 => ⟨_, rfl, t, vs, left, rfl, dp_ex (ex_trans e1 (ex_trans e2 e3)) hT, ok, fun p3 H4 hp3 e4 R4 => ?_⟩⟩
  obtain ⟨dx, tv, tr, h1, h2, h3⟩ := id (rh_ex e4 R3)
  obtain ⟨dy, uv, ur, g1, g2, g3⟩ := id R4
  refine ⟨p2, p3, dx, dy, _, _, rfl, rfl, h1, g1, ?_⟩
  unfold sp_Rhymeu_equ
  refine ⟨p2, p3, vs, vs, left, left, rfl, rh_ex e4 R3, R4, ?_⟩
  rw [decide_eq_true rfl, decide_eq_true rfl]
  exact ⟨_, rfl, q _ (ex_trans e1 (ex_trans e2 (ex_trans e3 e4)))⟩
theorem law_1 {K : PySem.W.Frag} {E : XK} {D : Ends} {x0 u2 u4 : Option V} {d : Addr} {t : V} {vs : List Ve} {left : Int} {H : Hp} (ok : RhOk vs left) (hD : DSt H d) (hT : Dp K H t (tD vs left))
    (k : ∀ σ H', Ex H H' → (∃ v3 v4, σ = [x0, some (.ref d), u2, v3, v4, none, none]) → D.nx σ H') : t_law_1a_1 K E D [x0, some (.ref d), u2, some t, u4, none, none] H := by
  obtain ⟨a, v, rfl, hs, hv⟩ := tD_at hT
  obtain ⟨b, xs, rfl, hb, hall⟩ := dp_tup (id hv)
  have hl : xs.length = vs.length := by
    have := dpa_len hall
    rw [List.length_map] at this
    exact this
  have hlen : ∀ x : Str, x.length ≤ 200 → x.length ≤ sizeLine := fun x hx => Nat.le_trans hx (by decide)
  have lf := ok.lf
  refine ⟨_, rfl, a, _, 1, _, rfl, rfl, hs, at1, _, rfl, small_log (by omega) (by omega), _, _, rfl, rfl, ?_, _, _, rfl, rfl, ?_, rfl, ?_⟩
  · have h1 := fig_len (i := left) (by omega) (by omega)
    have h2 : ("left " : Str).length = 5 := by decide +kernel
    exact len_line1 (by omega)
  · have h1 := fig_len (i := left) (by omega) (by omega)
    have h2 : ("left " : Str).length = 5 := by decide +kernel
    have h3 : ("\n" : Str).length = 1 := by decide +kernel
    have h4 := len_app "left " (Str.ofString (toString left))
    exact len_line1 (by omega)
  refine ⟨_, rfl, a, _, 0, _, rfl, rfl, hs, at0, b, rfl, ⟨xs, hb⟩, fun r hr => lc_map walk_tup (fun i => .str ((vs.map lineV).getD i "" ++ "\n")) hr (by rw [hl]; exact Nat.lt_of_le_of_lt ok.l4 (by decide)) (fun H6 e6 => sqt_ex e6 hb) ?_ ?_⟩
  · rintro i x H3 H4 hi e ⟨rfl, hx⟩ Q Zf qq
    obtain ⟨ve, tt, hve, rfl, ht⟩ := vs_at hall hx
    have hv := ok.cnt ve (List.mem_of_getElem? hve)
    refine ⟨tt, _, rfl, sqt_ex e ht, rfl, _, _, rfl, _, _, rfl, rfl, rfl, ?_⟩
    refine iteT (B := Zf H4) ?_
    have er : (vs.map lineV).getD i "" = lineV ve := by
      rw [List.getD_eq_getElem?_getD, List.getElem?_map, hve]
      rfl
    rw [er] at qq
    refine ⟨_, rfl, _, _, rfl, rfl, ?_, _, rfl, _, rfl, small_log (by omega) hv.2, _, _, rfl, rfl, ?_, _, _, rfl, rfl, ?_, qq _ (ex_refl _)⟩
    · cases ve.1 <;> decide +kernel
    · have h1 := fig_len (i := ve.2) (by omega) (by omega)
      have h2 : (wayS ve.1 ++ " ").length ≤ 5 := by cases ve.1 <;> decide +kernel
      exact len_line1 (by omega)
    · exact Nat.le_trans (Nat.add_le_add_right (line_len hv) _) (by decide +kernel)
  · intro H3 e3 hr3
    have e4 : (List.range xs.length).map (fun i => V.str ((vs.map lineV).getD i "" ++ "\n")) = ((vs.map lineV).map fun x => x ++ ("\n" : Str)).map V.str := by
      rw [List.map_map (l := vs.map lineV)]
      exact map_range_get (vs.map lineV) (fun x => V.str (x ++ "\n")) "" (by rw [List.length_map]; exact hl)
    rw [e4] at hr3
    refine ⟨_, r, _, rfl, rfl, .inl (SqL.of hr3), ?_, ?_⟩
    · have := lines_sum ok
      unfold linesS at this
      rw [List.map_cons, List.map_cons, List.sum_cons] at this
      rw [show ("" : Str).length = 0 from by decide +kernel, Nat.mul_zero]
      omega
    · refine ⟨_, _, rfl, rfl, ?_, ?_⟩
      · have h1 := fig_len (i := left) (by omega) (by omega)
        have h2 : ("left " : Str).length = 5 := by decide +kernel
        have h3 : ("\n" : Str).length = 1 := by decide +kernel
        have h4 := len_app "left " (Str.ofString (toString left))
        have h5 := len_app ("left " ++ Str.ofString (toString left)) "\n"
        have h6 := text_len ok
        rw [← law_text ok, len_app] at h6
        exact len_line1 (by omega)
      · rw [law_text ok]
        exact law_2 (E := E) ok (dst_ex e3 hD) (dp_ex e3 hT) fun H' e => k _ H' (ex_trans e3 e) ⟨_, _, rfl⟩
theorem pure_law {K : PySem.W.Frag} (ws : List V) (H : Hp) (Q : VK) (E : XK) (h : sp_law K ws H Q E) : t_law_0 K E { nx := fun _ H' => Q .non H', rt := Q } (start ["_law_script", "_law_d", "_law_k", "_law_t", "_law_text", "_law_way", "_law_count"] ws) H := by
  unfold sp_law at h
  obtain ⟨a, ns, rfl, hS, hn, k⟩ := h
  show t_law_0 K E _ [some (.ref a), none, none, none, none, none, none] H
  refine ⟨_, rfl, ?_⟩
  unfold sp_law_random
  refine ⟨a, ns, 909, rfl, hS, hn, by decide, by decide, fun d H1 hd e1 hD => ?_⟩
  show t_law_1 K E _ [some (.ref a), some (.ref d), none, none, none, none, none] H1
  unfold t_law_1
  refine ⟨3, rfl, by decide, by decide, for_range (fun i σ H' => DSt H' d ∧ ∃ u2 u3 u4, σ = [some (.ref a), some (.ref d), u2, u3, u4, none, none]) ⟨hD, _, _, _, rfl⟩ ?_ ?_⟩
  · rintro i σ H2 hi ⟨hD2, u2, u3, u4, rfl⟩
    refine ⟨_, rfl, ?_⟩
    unfold sp_law_drawn
    refine ⟨d, rfl, hD2, fun t vs left H3 ok hT hD3 f => ?_⟩
    refine law_1 (E := E) ok hD3 hT fun σ H4 e4 ⟨v3, v4, es⟩ => ?_
    exact ⟨dst_ex e4 hD3, _, _, _, es⟩
  · rintro σ H2 _
    exact k H2
theorem law_pre {K : PySem.W.Frag} {H : Hp} (a : Addr) (ns : List Int) (hS : SqL K H a (ns.map V.int)) (hn : ns.length ≤ 63) : sp_law K [.ref a] H (fun v _ => v = .bl true) fun _ _ _ => False := by
  unfold sp_law
  exact ⟨a, ns, rfl, hS, hn, fun _ => rfl⟩

end Z
namespace Z
open PySem PySem.Spec PyProof.Rows L2
local macro_rules | `(tactic| walk_at "len") => `(tactic| repeat (first | (obtain ⟨rfl, _⟩ := ‹_ ∧ _›; rfl) | (rename_i h; obtain ⟨_, h⟩ := h)))
def top (i : Nat) : Stmt := PySem.Challenge.pw_outrhymes_k09_texts_there_and_back.main.body.getD i (.Pass ⟨0, 0, 0, 0⟩)
abbrev s_law_random : Stmt := top 22
abbrev s_law_below : Stmt := top 23
abbrev s_law_pick : Stmt := top 24
abbrev s_law_drawn : Stmt := top 25
abbrev s_figures : Stmt := top 18
abbrev s_number_in : Stmt := top 19
abbrev s_is_between : Stmt := top 12
abbrev s_is_verse : Stmt := top 13
abbrev s_Rhymeu_initu : Stmt := inClass (top 14) 0
abbrev s_read : Stmt := top 20
abbrev s_law_made : Stmt := top 26
abbrev s_write : Stmt := top 17
abbrev s_Rhymeu_equ : Stmt := inClass (top 14) 3
abbrev s_law : Stmt := top 27
theorem sc_law_random : FnScope ["_law_script", "_law_salt", "_law_seed", "_law_cell"] ["_law_script", "_law_salt"] (defScope s_law_random) := ⟨rfl, rfl, rfl, by decide +kernel, rfl, by decide +kernel, by decide +kernel⟩
theorem sc_law_below : FnScope ["_law_d", "_law_size", "_law_result"] ["_law_d", "_law_size"] (defScope s_law_below) := ⟨rfl, rfl, rfl, by decide +kernel, rfl, by decide +kernel, by decide +kernel⟩
theorem sc_law_pick : FnScope ["_law_d", "_law_items"] ["_law_d", "_law_items"] (defScope s_law_pick) := ⟨rfl, rfl, rfl, by decide +kernel, rfl, by decide +kernel, by decide +kernel⟩
theorem sc_law_drawn : FnScope ["_law_d", "_law_verses", "_law_k"] ["_law_d"] (defScope s_law_drawn) := ⟨rfl, rfl, rfl, by decide +kernel, rfl, by decide +kernel, by decide +kernel⟩
theorem sc_figures : FnScope ["most", "number"] ["most"] (defScope s_figures) := ⟨rfl, rfl, rfl, by decide +kernel, rfl, by decide +kernel, by decide +kernel⟩
theorem sc_number_in : FnScope ["line", "heads", "most", "words"] ["line", "heads", "most"] (defScope s_number_in) := ⟨rfl, rfl, rfl, by decide +kernel, rfl, by decide +kernel, by decide +kernel⟩
theorem sc_is_between : FnScope ["value", "least", "most"] ["value", "least", "most"] (defScope s_is_between) := ⟨rfl, rfl, rfl, by decide +kernel, rfl, by decide +kernel, by decide +kernel⟩
theorem sc_is_verse : FnScope ["value"] ["value"] (defScope s_is_verse) := ⟨rfl, rfl, rfl, by decide +kernel, rfl, by decide +kernel, by decide +kernel⟩
theorem sc_Rhymeu_initu : FnScope ["self", "verses", "left", "index", "verse", "way", "count"] ["self", "verses", "left"] (defScope s_Rhymeu_initu) := ⟨rfl, rfl, rfl, by decide +kernel, rfl, by decide +kernel, by decide +kernel⟩
theorem sc_read : FnScope ["text", "lines", "found", "at", "line", "told"] ["text"] (defScope s_read) := ⟨rfl, rfl, rfl, by decide +kernel, rfl, by decide +kernel, by decide +kernel⟩
theorem sc_law_made : FnScope ["_law_t"] ["_law_t"] (defScope s_law_made) := ⟨rfl, rfl, rfl, by decide +kernel, rfl, by decide +kernel, by decide +kernel⟩
theorem sc_write : FnScope ["rhyme", "lines", "way", "count", "line"] ["rhyme"] (defScope s_write) := ⟨rfl, rfl, rfl, by decide +kernel, rfl, by decide +kernel, by decide +kernel⟩
theorem sc_Rhymeu_equ : FnScope ["self", "other"] ["self", "other"] (defScope s_Rhymeu_equ) := ⟨rfl, rfl, rfl, by decide +kernel, rfl, by decide +kernel, by decide +kernel⟩
theorem sc_law : FnScope ["_law_script", "_law_d", "_law_k", "_law_t", "_law_text", "_law_way", "_law_count"] ["_law_script"] (defScope s_law) := ⟨rfl, rfl, rfl, by decide +kernel, rfl, by decide +kernel, by decide +kernel⟩
structure Tw (K : PySem.W.Frag) (mg : Str → Option Value) : Prop where
  k_BACK : ∃ u, mg "BACK" = some u ∧ RelV (.str "back") u
  k_MOST_COUNT : ∃ u, mg "MOST_COUNT" = some u ∧ RelV (.int 6) u
  k_MOST_LEFT : ∃ u, mg "MOST_LEFT" = some u ∧ RelV (.int 3) u
  k_MOST_VERSES : ∃ u, mg "MOST_VERSES" = some u ∧ RelV (.int 4) u
  k_ON : ∃ u, mg "ON" = some u ∧ RelV (.str "on") u
  k_WAYS : ∃ u, mg "WAYS" = some u ∧ RelV (.ref (He.ga K "WAYS")) u
  f_abs : mg "abs" = none
  f_bool : mg "bool" = none
  f_enumerate : mg "enumerate" = none
  f_int : mg "int" = none
  f_isinstance : mg "isinstance" = none
  f_len : mg "len" = none
  f_range : mg "range" = none
  f_str : mg "str" = none
  f_tuple : mg "tuple" = none
  g_Rhyme : mg "Rhyme" = some (.ref (He.ga K "Rhyme"))
  d_law_random : mg "_law_random" = some (.ref (He.ga K "_law_random"))
  d_law_below : mg "_law_below" = some (.ref (He.ga K "_law_below"))
  d_law_pick : mg "_law_pick" = some (.ref (He.ga K "_law_pick"))
  d_law_drawn : mg "_law_drawn" = some (.ref (He.ga K "_law_drawn"))
  d_figures : mg "figures" = some (.ref (He.ga K "figures"))
  d_number_in : mg "number_in" = some (.ref (He.ga K "number_in"))
  d_is_between : mg "is_between" = some (.ref (He.ga K "is_between"))
  d_is_verse : mg "is_verse" = some (.ref (He.ga K "is_verse"))
  d_read : mg "read" = some (.ref (He.ga K "read"))
  d_law_made : mg "_law_made" = some (.ref (He.ga K "_law_made"))
  d_write : mg "write" = some (.ref (He.ga K "write"))
  d_law : mg "law" = some (.ref (He.ga K "law"))
  rh : RhC K
  ins : C8.InsC K (He.ga K "Rhyme")
  ways : WaysK K
  mk_Rhyme : (He.Fa.mkr "Rhyme").ok K = true
  mt_Rhyme_uequ : (He.Fa.meth "Rhyme" "__eq__").ok K = true
section
variable {P : Program} {w : World} {K : PySem.W.Frag} {mg : Str → Option Value} {base : Heap}
theorem ok_law_random (T : Tw K mg)  (F : ∃ fd, FnT K "_law_random" "_law_random" s_law_random [] (He.ga K "_law_random") fd) : Cl P w K mg base 1 "_law_random" (sp_law_random K) [] := by
  refine cl_of F T.d_law_random sc_law_random (fun vs H Q E h => ?_) (fun _ _ _ _ _ _ us hl => match us, hl with | [_, _], _ => rfl) (fun cdv A outer s H vs Q E hr h => ?_)
  · unfold sp_law_random at h
    repeat (first | (obtain ⟨rfl, _⟩ := h; rfl) | (obtain ⟨_, h⟩ := h))
  · have nd := sc_law_random.nd
    exact ⟨_, (pss_cons (ps_set (i := 2) nd rfl (Or.inl rfl) (pv 1))
      (pss_cons (ps_for ownsE rfl (pi_list (pv 0)) (pg_name (i := 3) nd rfl (Or.inl rfl))
      (pss_one (ps_set (i := 2) nd rfl (Or.inl rfl) (pe_op op_mod (pe_callTy call_int1 rfl T.f_int (by decide +kernel) (pa_cons (pe_op op_add (pe_op op_mul (pv 2) pe_int) (pe_callB call_abs rfl T.f_abs (by decide +kernel) (pa_cons (pv 3) pa_nil))) pa_nil)) pe_int))))
      (pss_one (ps_ret (pe_op op_cat (pe_lst (pa_cons (pv 2) (pa_cons pe_int pa_nil))) (pe_lc (own := [("_law_cell", 3)]) (g := (gName 3)) (tt := (tTest (tOp oGe (tVar 3) (tOp oPow (tC (.int 10)) (tC (.int 18)))))) rfl nd (pi_list (pv 0)) (blkOk_by (N := ["_law_script", "_law_salt", "_law_seed", "_law_cell"]) (sc := defScope s_law_random) (by decide +kernel)) (fun _ _ _ _ _ => (pg_name (i := 3) nd rfl (Or.inl rfl))) (fun _ _ _ _ _ => (pts_one (pt_cmpR op_ge (pv 3) (pe_op op_pow pe_int pe_int) (nomark _)))) (fun _ _ _ _ _ => (pv 3)))))))), by with_unfolding_all exact pure_law_random  vs H Q E h⟩
theorem ok_law_below (T : Tw K mg)  (F : ∃ fd, FnT K "_law_below" "_law_below" s_law_below [] (He.ga K "_law_below") fd) : Cl P w K mg base 1 "_law_below" (sp_law_below K) [] := by
  refine cl_of F T.d_law_below sc_law_below (fun vs H Q E h => ?_) (fun _ _ _ _ _ _ us hl => match us, hl with | [_, _], _ => rfl) (fun cdv A outer s H vs Q E hr h => ?_)
  · unfold sp_law_below at h
    repeat (first | (obtain ⟨rfl, _⟩ := h; rfl) | (obtain ⟨_, h⟩ := h))
  · have nd := sc_law_below.nd
    exact ⟨_, (pss_cons (ps_if (PW.pt (pw_and (pt_cmpR op_eq (pe_ix ix_list (pv 0) pe_int (fun _ _ => rfl)) pe_int (nomark _)) (pw_and1 (pt_cmpR op_gt (pe_callB call_len_seq rfl T.f_len (by decide +kernel) (pa_cons (pv 0) pa_nil)) pe_int (nomark _))))) (pss_one (ps_asg (pe_bm PySem.F.plainAttrs_list PySem.F.slot_list_pop PySem.F.type_list_pop mt_popAt (pv 0) (pa_cons pe_int pa_nil)) (pg_sub (pv 0) pe_int set_list))) pss_nil)
      (pss_cons (ps_if (pt_cmpR op_gt (pe_ix ix_list (pv 0) pe_int (fun _ _ => rfl)) pe_int (nomark _)) (pss_cons (ps_set (i := 2) nd rfl (Or.inl rfl) (pe_op op_mod (pe_callTy call_int1 rfl T.f_int (by decide +kernel) (pa_cons (pe_ix ix_list (pv 0) pe_int (fun _ _ => rfl)) pa_nil)) (pv 1)))
      (pss_cons (ps_asg (pe_op op_fdivW (pe_ix ix_list (pv 0) pe_int (fun _ _ => rfl)) (pv 1)) (pg_sub (pv 0) pe_int set_list))
      (pss_one (ps_ret (pv 2))))) pss_nil)
      (pss_cons (ps_asg (pe_op op_mod (pe_callTy call_int1 rfl T.f_int (by decide +kernel) (pa_cons (pe_op op_add (pe_op op_mul (pe_ix ix_list (pv 0) pe_int (fun _ _ => rfl)) pe_int) pe_int) pa_nil)) pe_int) (pg_sub (pv 0) pe_int set_list))
      (pss_one (ps_ret (pe_op op_mod (pe_callTy call_int1 rfl T.f_int (by decide +kernel) (pa_cons (pe_op op_fdiv (pe_ix ix_list (pv 0) pe_int (fun _ _ => rfl)) pe_int) pa_nil)) (pv 1))))))), by with_unfolding_all exact pure_law_below  vs H Q E h⟩
theorem ok_law_pick (T : Tw K mg) (c_law_below : Cl P w K mg base 1 "_law_below" (sp_law_below K) []) (F : ∃ fd, FnT K "_law_pick" "_law_pick" s_law_pick [] (He.ga K "_law_pick") fd) : Cl P w K mg base 2 "_law_pick" (sp_law_pick K) [] := by
  refine cl_of F T.d_law_pick sc_law_pick (fun vs H Q E h => ?_) (fun _ _ _ _ _ _ us hl => match us, hl with | [_, _], _ => rfl) (fun cdv A outer s H vs Q E hr h => ?_)
  · unfold sp_law_pick at h
    repeat (first | (obtain ⟨rfl, _⟩ := h; rfl) | (obtain ⟨_, h⟩ := h))
  · have nd := sc_law_pick.nd
    exact ⟨_, (pss_one (ps_ret (pe_ix ix_list (pv 1) (pe_cl c_law_below hr (by decide) rfl passL (pa_cons (pv 0) (pa_cons (pe_callB call_len_seq rfl T.f_len (by decide +kernel) (pa_cons (pv 1) pa_nil)) pa_nil))) (fun _ _ => rfl)))), by with_unfolding_all exact pure_law_pick  vs H Q E h⟩
theorem ok_law_drawn (T : Tw K mg) (c_law_below : Cl P w K mg base 1 "_law_below" (sp_law_below K) []) (c_law_pick : Cl P w K mg base 2 "_law_pick" (sp_law_pick K) []) (F : ∃ fd, FnT K "_law_drawn" "_law_drawn" s_law_drawn [] (He.ga K "_law_drawn") fd) : Cl P w K mg base 3 "_law_drawn" (sp_law_drawn K) [] := by
  refine cl_of F T.d_law_drawn sc_law_drawn (fun vs H Q E h => ?_) (fun _ _ _ _ _ _ us hl => match us, hl with | [_], _ => rfl) (fun cdv A outer s H vs Q E hr h => ?_)
  · unfold sp_law_drawn at h
    repeat (first | (obtain ⟨rfl, _⟩ := h; rfl) | (obtain ⟨_, h⟩ := h))
  · have nd := sc_law_drawn.nd
    exact ⟨_, (pss_cons (ps_set (i := 1) nd rfl (Or.inl rfl) (pe_lst pa_nil))
      (pss_cons (ps_for ownsE rfl (pi_range1 rfl T.f_range (pa_cons (pe_op op_add pe_int (pe_cl c_law_below hr (by decide) rfl passL (pa_cons (pv 0) (pa_cons pe_int pa_nil)))) pa_nil)) (pg_name (i := 2) nd rfl (Or.inl rfl))
      (pss_one (ps_expr (pe_bm PySem.F.plainAttrs_list PySem.F.slot_list_append PySem.F.type_list_append mt_append (pv 1) (pa_cons (pe_tup (pa_cons (pe_cl c_law_pick hr (by decide) rfl passL (pa_cons (pv 0) (pa_cons (pe_lst (pa_cons pe_str (pa_cons pe_str (pa_cons pe_str pa_nil)))) pa_nil))) (pa_cons (pe_op op_add pe_int (pe_cl c_law_below hr (by decide) rfl passL (pa_cons (pv 0) (pa_cons pe_int pa_nil)))) pa_nil))) pa_nil)))))
      (pss_one (ps_ret (pe_tup (pa_cons (pe_callTy call_tuple_of rfl T.f_tuple (by decide +kernel) (pa_cons (pv 1) pa_nil)) (pa_cons (pe_op op_add pe_int (pe_cl c_law_below hr (by decide) rfl passL (pa_cons (pv 0) (pa_cons pe_int pa_nil)))) pa_nil))))))), by with_unfolding_all exact pure_law_drawn  vs H Q E h⟩
theorem ok_figures (T : Tw K mg)  (F : ∃ fd, FnT K "figures" "figures" s_figures [] (He.ga K "figures") fd) : Cl P w K mg base 1 "figures" (sp_figures K) [] := by
  refine cl_of F T.d_figures sc_figures (fun vs H Q E h => ?_) (fun _ _ _ _ _ _ us hl => match us, hl with | [_], _ => rfl) (fun cdv A outer s H vs Q E hr h => ?_)
  · unfold sp_figures at h
    repeat (first | (obtain ⟨rfl, _⟩ := h; rfl) | (obtain ⟨_, h⟩ := h))
  · have nd := sc_figures.nd
    exact ⟨_, (pss_one (ps_ret (pe_lc (own := [("number", 1)]) (g := (gName 1)) (tt := tYes) rfl nd (pi_range2 rfl T.f_range (pa_cons pe_int (pa_cons (pe_op op_add (pv 0) pe_int) pa_nil))) (blkOk_by (N := ["most", "number"]) (sc := defScope s_figures) (by decide +kernel)) (fun _ _ _ _ _ => (pg_name (i := 1) nd rfl (Or.inl rfl))) (fun _ _ _ _ _ => pts_nil) (fun _ _ _ _ _ => (pe_callTy call_str_int rfl T.f_str (by decide +kernel) (pa_cons (pv 1) pa_nil)))))), by with_unfolding_all exact pure_figures  vs H Q E h⟩
theorem ok_number_in (T : Tw K mg) (c_figures : Cl P w K mg base 1 "figures" (sp_figures K) []) (F : ∃ fd, FnT K "number_in" "number_in" s_number_in [] (He.ga K "number_in") fd) : Cl P w K mg base 2 "number_in" (sp_number_in K) [] := by
  refine cl_of F T.d_number_in sc_number_in (fun vs H Q E h => ?_) (fun _ _ _ _ _ _ us hl => match us, hl with | [_, _, _], _ => rfl) (fun cdv A outer s H vs Q E hr h => ?_)
  · unfold sp_number_in at h
    repeat (first | (obtain ⟨rfl, _⟩ := h; rfl) | (obtain ⟨_, h⟩ := h))
  · have nd := sc_number_in.nd
    exact ⟨_, (pss_cons (ps_set (i := 3) nd rfl (Or.inl rfl) (pe_bm PySem.F.plainAttrs_str PySem.F.slot_str_split PySem.F.type_str_split mt_split (pv 0) (pa_cons pe_str pa_nil)))
      (pss_cons (ps_if (PW.pt (pw_or (pt_cmpR op_ne (pe_callB call_len_seq rfl T.f_len (by decide +kernel) (pa_cons (pv 3) pa_nil)) pe_int (nomark _)) (pw_or (pt_cmpR op_notIn_seq (pe_ix ix_list (pv 3) pe_int (fun _ _ => rfl)) (pv 1) (by rfl)) (pw_or1 (pt_cmpR op_notIn_seq (pe_ix ix_list (pv 3) pe_int (fun _ _ => rfl)) (pe_cl c_figures hr (by decide) rfl passL (pa_cons (pv 2) pa_nil)) (by rfl)))))) (pss_one (ps_ret pe_non)) pss_nil)
      (pss_one (ps_ret (pe_tup (pa_cons (pe_ix ix_list (pv 3) pe_int (fun _ _ => rfl)) (pa_cons (pe_callTy call_int_str rfl T.f_int (by decide +kernel) (pa_cons (pe_ix ix_list (pv 3) pe_int (fun _ _ => rfl)) pa_nil)) pa_nil))))))), by with_unfolding_all exact pure_number_in  vs H Q E h⟩
theorem ok_is_between (T : Tw K mg)  (F : ∃ fd, FnT K "is_between" "is_between" s_is_between [] (He.ga K "is_between") fd) : Cl P w K mg base 1 "is_between" (sp_is_between K) [] := by
  refine cl_of F T.d_is_between sc_is_between (fun vs H Q E h => ?_) (fun _ _ _ _ _ _ us hl => match us, hl with | [_, _, _], _ => rfl) (fun cdv A outer s H vs Q E hr h => ?_)
  · unfold sp_is_between at h
    repeat (first | (obtain ⟨rfl, _⟩ := h; rfl) | (obtain ⟨_, h⟩ := h))
  · have nd := sc_is_between.nd
    exact ⟨_, (pss_one (ps_ret (pe_and (pe_callB call_isi rfl T.f_isinstance (by decide +kernel) (pa_cons (pv 0) (pa_cons (pe_bltn (v := .ty "int") (u := .type "int") rfl T.f_int (by decide +kernel) rfl) pa_nil))) (pe_and (pe_not (pe_callB call_isi rfl T.f_isinstance (by decide +kernel) (pa_cons (pv 0) (pa_cons (pe_bltn (v := .ty "bool") (u := .type "bool") rfl T.f_bool (by decide +kernel) rfl) pa_nil)))) (pe_one (pe_chain op_le op_le (pv 1) (pv 0) (pv 2))))))), by with_unfolding_all exact pure_is_between  vs H Q E h⟩
theorem ok_is_verse (T : Tw K mg) (c_is_between : Cl P w K mg base 1 "is_between" (sp_is_between K) []) (F : ∃ fd, FnT K "is_verse" "is_verse" s_is_verse [] (He.ga K "is_verse") fd) : Cl P w K mg base 2 "is_verse" (sp_is_verse K) [] := by
  refine cl_of F T.d_is_verse sc_is_verse (fun vs H Q E h => ?_) (fun _ _ _ _ _ _ us hl => match us, hl with | [_], _ => rfl) (fun cdv A outer s H vs Q E hr h => ?_)
  · unfold sp_is_verse at h
    repeat (first | (obtain ⟨rfl, _⟩ := h; rfl) | (obtain ⟨_, h⟩ := h))
  · have nd := sc_is_verse.nd
    exact ⟨_, (pss_cons (ps_if (PW.pt (pw_or (pt_not (pt_val (pe_callB call_isi rfl T.f_isinstance (by decide +kernel) (pa_cons (pv 0) (pa_cons (pe_bltn (v := .ty "tuple") (u := .type "tuple") rfl T.f_tuple (by decide +kernel) rfl) pa_nil))))) (pw_or (pt_cmpR op_ne (pe_callB call_len_seq rfl T.f_len (by decide +kernel) (pa_cons (pv 0) pa_nil)) pe_int (nomark _)) (pw_or1 (pt_not (pt_val (pe_callB call_isi rfl T.f_isinstance (by decide +kernel) (pa_cons (pe_ix ix_tup (pv 0) pe_int (fun _ _ => rfl)) (pa_cons (pe_bltn (v := .ty "str") (u := .type "str") rfl T.f_str (by decide +kernel) rfl) pa_nil))))))))) (pss_one (ps_ret pe_bl)) pss_nil)
      (pss_one (ps_ret (pe_and (pe_cmpR op_in_seq (pe_ix ix_tup (pv 0) pe_int (fun _ _ => rfl)) (pe_tup (pa_cons (C8.pe_gc rfl T.k_ON) (pa_cons (C8.pe_gc rfl T.k_BACK) pa_nil))) (by rfl)) (pe_one (pe_cl c_is_between hr (by decide) rfl passL (pa_cons (pe_ix ix_tup (pv 0) pe_int (fun _ _ => rfl)) (pa_cons pe_int (pa_cons (C8.pe_gc rfl T.k_MOST_COUNT) pa_nil))))))))), by with_unfolding_all exact pure_is_verse  vs H Q E h⟩
theorem ok_Rhymeu_initu (T : Tw K mg) (c_is_verse : Cl P w K mg base 2 "is_verse" (sp_is_verse K) []) (c_is_between : Cl P w K mg base 1 "is_between" (sp_is_between K) []) (F : ∃ fd, FnT K "__init__" "Rhyme.__init__" s_Rhymeu_initu [] (He.ma K (He.ga K "Rhyme") "__init__") fd) : Ck P w K mg base 3 "Rhyme" (He.ga K "Rhyme") (sp_Rhymeu_initu K) := by
  refine ck_of (He.mkr_ok T.mk_Rhyme) F T.g_Rhyme sc_Rhymeu_initu (fun vs H Q E h => ?_) (fun _ _ _ _ _ _ us hl => match us, hl with | [_, _, _], _ => rfl) (fun cdv A outer s H vs Q E hr h => ?_)
  · unfold sp_Rhymeu_initu at h
    repeat (first | (obtain ⟨rfl, _⟩ := h; rfl) | (obtain ⟨_, h⟩ := h))
  · have nd := sc_Rhymeu_initu.nd
    exact ⟨_, (pss_cons (ps_if (PW.pt (pw_or (pt_not (pt_val (pe_callB call_isi rfl T.f_isinstance (by decide +kernel) (pa_cons (pv 1) (pa_cons (pe_bltn (v := .ty "tuple") (u := .type "tuple") rfl T.f_tuple (by decide +kernel) rfl) pa_nil))))) (pw_or1 (pt_not (pt_chain op_le op_le pe_int (pe_callB call_len_seq rfl T.f_len (by decide +kernel) (pa_cons (pv 1) pa_nil)) (C8.pe_gc rfl T.k_MOST_VERSES)))))) (pss_one ps_never) pss_nil)
      (pss_cons (ps_for ownsE rfl (pi_enumT rfl T.f_enumerate (pa_cons (pv 1) pa_nil)) (pg_tup rfl (pgs_cons (pg_name (i := 3) nd rfl (Or.inl rfl)) (pgs_cons (pg_name (i := 4) nd rfl (Or.inl rfl)) pgs_nil)))
      (pss_one (ps_if (pt_not (pt_val (pe_cl c_is_verse hr (by decide) rfl passL (pa_cons (pv 4) pa_nil)))) (pss_one ps_never) pss_nil)))
      (pss_cons (ps_if (pt_not (pt_val (pe_cl c_is_between hr (by decide) rfl passL (pa_cons (pv 2) (pa_cons pe_int (pa_cons (C8.pe_gc rfl T.k_MOST_LEFT) pa_nil)))))) (pss_one ps_never) pss_nil)
      (pss_cons (ps_fld (pv 0) (pv 1) rfl)
      (pss_cons (ps_fld (pv 0) (pv 2) rfl)
      (pss_one (ps_fld (pv 0) (pe_callTy call_tuple_of rfl T.f_tuple (by decide +kernel) (pa_cons (pe_lc (own := [("way", 5), ("count", 6)]) (g := (gTup K 2 (gCons (gName 5) (gCons (gName 6) gNil)))) (tt := tYes) rfl nd (pi_tup (pv 1)) (blkOk_by (N := ["self", "verses", "left", "index", "verse", "way", "count"]) (sc := defScope s_Rhymeu_initu) (by decide +kernel)) (fun _ _ _ _ _ => (pg_tup rfl (pgs_cons (pg_name (i := 5) nd rfl (Or.inl rfl)) (pgs_cons (pg_name (i := 6) nd rfl (Or.inl rfl)) pgs_nil)))) (fun _ _ _ _ _ => pts_nil) (fun _ _ _ _ _ => (pe_ifExp (pt_cmpR op_eq (pv 5) (C8.pe_gc rfl T.k_ON) (nomark _)) (pv 6) (pe_op op_sub pe_int (pv 6))))) pa_nil)) rfl))))))), by with_unfolding_all exact pure_Rhymeu_initu T.rh vs H Q E h⟩
theorem ok_read (T : Tw K mg) (c_number_in : Cl P w K mg base 2 "number_in" (sp_number_in K) []) (c_Rhymeu_initu : Ck P w K mg base 3 "Rhyme" (He.ga K "Rhyme") (sp_Rhymeu_initu K)) (F : ∃ fd, FnT K "read" "read" s_read [] (He.ga K "read") fd) : Cl P w K mg base 5 "read" (sp_read K) [] := by
  refine cl_of F T.d_read sc_read (fun vs H Q E h => ?_) (fun _ _ _ _ _ _ us hl => match us, hl with | [_], _ => rfl) (fun cdv A outer s H vs Q E hr h => ?_)
  · unfold sp_read at h
    repeat (first | (obtain ⟨rfl, _⟩ := h; rfl) | (obtain ⟨_, h⟩ := h))
  · have nd := sc_read.nd
    exact ⟨_, (pss_cons (ps_set (i := 1) nd rfl (Or.inl rfl) (pe_bm PySem.F.plainAttrs_str PySem.F.slot_str_split PySem.F.type_str_split mt_split (pv 0) (pa_cons pe_str pa_nil)))
      (pss_cons (ps_set (i := 2) nd rfl (Or.inl rfl) (pe_lst pa_nil))
      (pss_cons (ps_for ownsE rfl (pi_enum rfl T.f_enumerate (pa_cons (pe_slice sl_list (pv 1) po_none (po_some (pe_un un_neg pe_int))) pa_nil)) (pg_tup rfl (pgs_cons (pg_name (i := 3) nd rfl (Or.inl rfl)) (pgs_cons (pg_name (i := 4) nd rfl (Or.inl rfl)) pgs_nil)))
      (pss_cons (ps_set (i := 5) nd rfl (Or.inl rfl) (pe_ifExp (pt_cmpR op_eq (pv 3) pe_int (nomark _)) (pe_cl c_number_in hr (by decide) rfl passL (pa_cons (pv 4) (pa_cons (pe_tup (pa_cons pe_str pa_nil)) (pa_cons (C8.pe_gc rfl T.k_MOST_LEFT) pa_nil)))) (pe_cl c_number_in hr (by decide) rfl passL (pa_cons (pv 4) (pa_cons (C8.pe_gc rfl T.k_WAYS) (pa_cons (C8.pe_gc rfl T.k_MOST_COUNT) pa_nil))))))
      (pss_cons (ps_if (PW.pt (pw_or (pt_cmpR op_isN (pv 5) pe_non (nomark _)) (pw_or1 (pt_cmpR op_gt (pv 3) (C8.pe_gc rfl T.k_MOST_VERSES) (nomark _))))) (pss_one ps_never) pss_nil)
      (pss_one (ps_expr (pe_bm PySem.F.plainAttrs_list PySem.F.slot_list_append PySem.F.type_list_append mt_append (pv 2) (pa_cons (pv 5) pa_nil)))))))
      (pss_cons (ps_if (PW.pt (pw_or (pt_cmpR op_ne (pe_ix ix_list (pv 1) (pe_un un_neg pe_int) (fun _ _ => rfl)) pe_str (nomark _)) (pw_or1 (pt_cmpR op_lt (pe_callB call_len_seq rfl T.f_len (by decide +kernel) (pa_cons (pv 2) pa_nil)) pe_int (nomark _))))) (pss_one ps_never) pss_nil)
      (pss_one (ps_ret (pe_mkc c_Rhymeu_initu hr (by decide) rfl passL (pa_cons (pe_callTy call_tuple_of rfl T.f_tuple (by decide +kernel) (pa_cons (pe_slice sl_list (pv 2) (po_some pe_int) po_none) pa_nil)) (pa_cons (pe_ix ix_tup (pe_ix ix_list (pv 2) pe_int (fun _ _ => rfl)) pe_int (fun _ _ => rfl)) pa_nil))))))))), by with_unfolding_all exact pure_read T.rh T.ways vs H Q E h⟩
theorem ok_law_made (T : Tw K mg) (c_Rhymeu_initu : Ck P w K mg base 3 "Rhyme" (He.ga K "Rhyme") (sp_Rhymeu_initu K)) (F : ∃ fd, FnT K "_law_made" "_law_made" s_law_made [] (He.ga K "_law_made") fd) : Cl P w K mg base 5 "_law_made" (sp_law_made K) [] := by
  refine cl_of F T.d_law_made sc_law_made (fun vs H Q E h => ?_) (fun _ _ _ _ _ _ us hl => match us, hl with | [_], _ => rfl) (fun cdv A outer s H vs Q E hr h => ?_)
  · unfold sp_law_made at h
    repeat (first | (obtain ⟨rfl, _⟩ := h; rfl) | (obtain ⟨_, h⟩ := h))
  · have nd := sc_law_made.nd
    exact ⟨_, (pss_one (ps_ret (pe_mkc c_Rhymeu_initu hr (by decide) rfl passL (pa_cons (pe_ix ix_tup (pv 0) pe_int (fun _ _ => rfl)) (pa_cons (pe_ix ix_tup (pv 0) pe_int (fun _ _ => rfl)) pa_nil))))), by with_unfolding_all exact pure_law_made  vs H Q E h⟩
theorem ok_write (T : Tw K mg)  (F : ∃ fd, FnT K "write" "write" s_write [] (He.ga K "write") fd) : Cl P w K mg base 1 "write" (sp_write K) [] := by
  refine cl_of F T.d_write sc_write (fun vs H Q E h => ?_) (fun _ _ _ _ _ _ us hl => match us, hl with | [_], _ => rfl) (fun cdv A outer s H vs Q E hr h => ?_)
  · unfold sp_write at h
    repeat (first | (obtain ⟨rfl, _⟩ := h; rfl) | (obtain ⟨_, h⟩ := h))
  · have nd := sc_write.nd
    exact ⟨_, (pss_cons (ps_set (i := 1) nd rfl (Or.inl rfl) (pe_lst (pa_cons (pe_joined (PJ.cons pe_str (PJ.cons (pe_fmt (pe_fld (pv 0) rfl)) PJ.nil))) pa_nil)))
      (pss_cons (ps_expr (pe_bm PySem.F.plainAttrs_list PySem.F.slot_list_extend PySem.F.type_list_extend mt_extend (pv 1) (pa_cons (pe_lc (own := [("way", 2), ("count", 3)]) (g := (gTup K 2 (gCons (gName 2) (gCons (gName 3) gNil)))) (tt := tYes) rfl nd (pi_tup (pe_fld (pv 0) rfl)) (blkOk_by (N := ["rhyme", "lines", "way", "count", "line"]) (sc := defScope s_write) (by decide +kernel)) (fun _ _ _ _ _ => (pg_tup rfl (pgs_cons (pg_name (i := 2) nd rfl (Or.inl rfl)) (pgs_cons (pg_name (i := 3) nd rfl (Or.inl rfl)) pgs_nil)))) (fun _ _ _ _ _ => pts_nil) (fun _ _ _ _ _ => (pe_joined (PJ.cons (pe_fmt (pv 2)) (PJ.cons pe_str (PJ.cons (pe_fmt (pv 3)) PJ.nil)))))) pa_nil)))
      (pss_one (ps_ret (pe_bm PySem.F.plainAttrs_str PySem.F.slot_str_join PySem.F.type_str_join mt_join pe_str (pa_cons (pe_lc (own := [("line", 4)]) (g := (gName 4)) (tt := tYes) rfl nd (pi_list (pv 1)) (blkOk_by (N := ["rhyme", "lines", "way", "count", "line"]) (sc := defScope s_write) (by decide +kernel)) (fun _ _ _ _ _ => (pg_name (i := 4) nd rfl (Or.inl rfl))) (fun _ _ _ _ _ => pts_nil) (fun _ _ _ _ _ => (pe_op op_add_str (pv 4) pe_str))) pa_nil)))))), by with_unfolding_all exact pure_write T.rh vs H Q E h⟩
theorem ok_Rhymeu_equ (T : Tw K mg)  (F : ∃ fd, FnT K "__eq__" "Rhyme.__eq__" s_Rhymeu_equ [] (He.ma K (He.ga K "Rhyme") "__eq__") fd) : Cm P w K mg base 1 (He.ga K "Rhyme") "__eq__" (sp_Rhymeu_equ K) := by
  refine cm_of T.rh.cl (He.meth_ok T.mt_Rhyme_uequ) F sc_Rhymeu_equ (fun vs H Q E h => ?_) (fun _ _ _ _ _ _ us hl => match us, hl with | [_, _], _ => rfl) (fun cdv A outer s H vs Q E hr h => ?_)
  · unfold sp_Rhymeu_equ at h
    repeat (first | (obtain ⟨rfl, _⟩ := h; rfl) | (obtain ⟨_, h⟩ := h))
  · have nd := sc_Rhymeu_equ.nd
    exact ⟨_, (pss_one (ps_ret (pe_and (pe_callB call_isi rfl T.f_isinstance (by decide +kernel) (pa_cons (pv 1) (pa_cons (C8.pe_gc (v := .ref (He.ga K "Rhyme")) rfl ⟨_, T.g_Rhyme, rfl⟩) pa_nil))) (pe_and (pe_cmpR (op_eqD hr.units) (pe_fld (pv 0) rfl) (pe_fld (pv 1) rfl) (nomark _)) (pe_one (pe_cmpR op_eq (pe_fld (pv 0) rfl) (pe_fld (pv 1) rfl) (nomark _))))))), by with_unfolding_all exact pure_Rhymeu_equ T.rh T.ins vs H Q E h⟩
theorem okf_law {fd : FuncData} (T : Tw K mg) (c_law_random : Cl P w K mg base 1 "_law_random" (sp_law_random K) []) (c_law_drawn : Cl P w K mg base 3 "_law_drawn" (sp_law_drawn K) []) (c_read : Cl P w K mg base 5 "read" (sp_read K) []) (c_law_made : Cl P w K mg base 5 "_law_made" (sp_law_made K) []) (c_write : Cl P w K mg base 1 "write" (sp_write K) []) (c_Rhymeu_equ : Cm P w K mg base 1 (He.ga K "Rhyme") "__eq__" (sp_Rhymeu_equ K)) (F : FnT K "law" "law" s_law [] (He.ga K "law") fd) : FnOk P w K mg base (L2.CX P w) 6 (He.ga K "law") fd ["_law_script"] (sp_law K) := by
  refine F.ok sc_law (fun vs H Q E h => ?_) (fun cdv A outer s H vs Q E hr h => ?_)
  · unfold sp_law at h
    repeat (first | (obtain ⟨rfl, _⟩ := h; rfl) | (obtain ⟨_, h⟩ := h))
  · have nd := sc_law.nd
    exact ⟨_, (pss_cons (ps_set (i := 1) nd rfl (Or.inl rfl) (pe_cl c_law_random hr (by decide) rfl passL (pa_cons (pv 0) (pa_cons pe_int pa_nil))))
      (pss_cons (ps_for ownsE rfl (pi_range1 rfl T.f_range (pa_cons pe_int pa_nil)) (pg_name (i := 2) nd rfl (Or.inl rfl))
      (pss_cons (ps_set (i := 3) nd rfl (Or.inl rfl) (pe_cl c_law_drawn hr (by decide) rfl passL (pa_cons (pv 1) pa_nil)))
      (pss_cons (ps_set (i := 4) nd rfl (Or.inl rfl) (pe_op op_add_str (pe_op op_add_str (pe_op op_add_str pe_str (pe_callTy call_str_int rfl T.f_str (by decide +kernel) (pa_cons (pe_ix ix_tup (pv 3) pe_int (fun _ _ => rfl)) pa_nil))) pe_str) (pe_bm PySem.F.plainAttrs_str PySem.F.slot_str_join PySem.F.type_str_join mt_join pe_str (pa_cons (pe_lc (own := [("_law_way", 5), ("_law_count", 6)]) (g := (gTup K 2 (gCons (gName 5) (gCons (gName 6) gNil)))) (tt := tYes) rfl nd (pi_tup (pe_ix ix_tup (pv 3) pe_int (fun _ _ => rfl))) (blkOk_by (N := ["_law_script", "_law_d", "_law_k", "_law_t", "_law_text", "_law_way", "_law_count"]) (sc := defScope s_law) (by decide +kernel)) (fun _ _ _ _ _ => (pg_tup rfl (pgs_cons (pg_name (i := 5) nd rfl (Or.inl rfl)) (pgs_cons (pg_name (i := 6) nd rfl (Or.inl rfl)) pgs_nil)))) (fun _ _ _ _ _ => pts_nil) (fun _ _ _ _ _ => (pe_op op_add_str (pe_op op_add_str (pe_op op_add_str (pv 5) pe_str) (pe_callTy call_str_int rfl T.f_str (by decide +kernel) (pa_cons (pv 6) pa_nil))) pe_str))) pa_nil))))
      (pss_one (ps_if (PW.pt (pw_or (pt_cmpR op_ne (pe_cl c_write hr (by decide) rfl passL (pa_cons (pe_cl c_law_made hr (by decide) rfl passL (pa_cons (pv 3) pa_nil)) pa_nil)) (pv 4) (nomark _)) (pw_or1 (pt_not (pt_cmpR (op_eqI c_Rhymeu_equ hr (by decide) passL) (pe_cl c_read hr (by decide) rfl passL (pa_cons (pv 4) pa_nil)) (pe_cl c_law_made hr (by decide) rfl passL (pa_cons (pv 3) pa_nil)) (nomark _)))))) (pss_one (ps_ret pe_bl)) pss_nil)))))
      (pss_one (ps_ret pe_bl)))), by with_unfolding_all exact pure_law  vs H Q E h⟩
end
end Z
namespace Z
open PySem PySem.Spec PyProof.Rows L2
def fn : List He.DefD := [
  ⟨("_law_random", none), "_law_random", "_law_random", defArgs s_law_random, defBody s_law_random, defScope s_law_random, [], []⟩,
  ⟨("_law_below", none), "_law_below", "_law_below", defArgs s_law_below, defBody s_law_below, defScope s_law_below, [], []⟩,
  ⟨("_law_pick", none), "_law_pick", "_law_pick", defArgs s_law_pick, defBody s_law_pick, defScope s_law_pick, [], []⟩,
  ⟨("_law_drawn", none), "_law_drawn", "_law_drawn", defArgs s_law_drawn, defBody s_law_drawn, defScope s_law_drawn, [], []⟩,
  ⟨("figures", none), "figures", "figures", defArgs s_figures, defBody s_figures, defScope s_figures, [], []⟩,
  ⟨("number_in", none), "number_in", "number_in", defArgs s_number_in, defBody s_number_in, defScope s_number_in, [], []⟩,
  ⟨("is_between", none), "is_between", "is_between", defArgs s_is_between, defBody s_is_between, defScope s_is_between, [], []⟩,
  ⟨("is_verse", none), "is_verse", "is_verse", defArgs s_is_verse, defBody s_is_verse, defScope s_is_verse, [], []⟩,
  ⟨("Rhyme", some "__init__"), "__init__", "Rhyme.__init__", defArgs s_Rhymeu_initu, defBody s_Rhymeu_initu, defScope s_Rhymeu_initu, [], []⟩,
  ⟨("read", none), "read", "read", defArgs s_read, defBody s_read, defScope s_read, [], []⟩,
  ⟨("_law_made", none), "_law_made", "_law_made", defArgs s_law_made, defBody s_law_made, defScope s_law_made, [], []⟩,
  ⟨("write", none), "write", "write", defArgs s_write, defBody s_write, defScope s_write, [], []⟩,
  ⟨("Rhyme", some "__eq__"), "__eq__", "Rhyme.__eq__", defArgs s_Rhymeu_equ, defBody s_Rhymeu_equ, defScope s_Rhymeu_equ, [], []⟩,
  ⟨("law", none), "law", "law", defArgs s_law, defBody s_law, defScope s_law, [], []⟩]
def fa0 : List He.Fa := [.str "BACK" "back", .int "MOST_COUNT" 6, .int "MOST_LEFT" 3, .int "MOST_VERSES" 4, .str "ON" "on", .glo "WAYS", .free "abs", .free "bool", .free "enumerate", .free "int", .free "isinstance", .free "len", .free "range", .free "str", .free "tuple", .glo "Rhyme", .glo "_law_random", .glo "_law_below", .glo "_law_pick", .glo "_law_drawn", .glo "figures", .glo "number_in", .glo "is_between", .glo "is_verse", .glo "read", .glo "_law_made", .glo "write", .glo "law", .cls "Rhyme", .noat "Rhyme" "own_verses"]
def fa1 : List He.Fa := [.noat "Rhyme" "own_left", .noat "Rhyme" "rises", .mkr "Rhyme", .meth "Rhyme" "__eq__"]
def fa : List He.Fa := fa0 ++ fa1
def exB (K : PySem.W.Frag) : Bool := insB K "Rhyme" && He.tupB K "WAYS" [.str "back", .str "on"]
def loose0 : List PySem.Str := ["_wall", "__name__", "RhymeError", "BadVerses", "BadLeft", "InvalidLine", "__name__", "ON", "BACK", "MOST_COUNT", "MOST_VERSES", "MOST_LEFT", "is_between", "is_verse", "Rhyme", "__name__", "WAYS", "write", "figures", "number_in", "read", "__name__", "_law_random", "_law_below", "_law_pick", "_law_drawn", "_law_made"]
def loose : List PySem.Str := loose0
abbrev R : PySem.W.OpenRow := PySem.W.OpenLaw.row PySem.Challenge.rw_outrhymes_k09_texts_there_and_back
abbrev hk : PySem.W.Hook := He.hookX 6 fa fn [] [] exB
def ob (s : PySem.W.SharedT) : He.AlX := He.obsX 6 fa fn [] [] exB (HandSHeadRun.getT s)
theorem ob_eq (s : PySem.W.SharedT) : ob s = hk.obs s.abs := He.obsX_eq (HandSHeadRun.getT_eq s)
theorem run (w : World) : HandSHeadRun.RunEq R (PySem.W.view R.prog [27]) hk ob 4000 loose w := by
  intro os
  kernel_rfl
theorem tw_of {K : PySem.W.Frag} {h : Heap} {mg : Str → Option Value} (X : K.In h) (G : h.Ns mainGlobals mg) (c : He.SaysD fa fn K) (e : exB K = true) : Tw K mg := by
  have gl : ∀ {x : Str}, He.Fa.glo x ∈ fa → mg x = some (.ref (He.ga K x)) := fun hx => He.glo_ok X G (c.facts hx)
  have fr : ∀ {x : Str}, He.Fa.free x ∈ fa → mg x = none := fun hx => He.free_ok X G (c.facts hx)
  have it : ∀ {x : Str} {i : Int}, He.Fa.int x i ∈ fa → ∃ u, mg x = some u ∧ RelV (.int i) u := fun hx => by
    obtain ⟨t, e⟩ := He.int_ok X G (c.facts hx)
    exact ⟨_, e, t, rfl⟩
  have sr : ∀ {x z : Str}, He.Fa.str x z ∈ fa → ∃ u, mg x = some u ∧ RelV (.str z) u := fun hx => by
    obtain ⟨t, e⟩ := He.str_ok X G (c.facts hx)
    exact ⟨_, e, t, rfl⟩
  have gc : ∀ {x : Str}, He.Fa.glo x ∈ fa → ∃ u, mg x = some u ∧ RelV (.ref (He.ga K x)) u := fun hx => ⟨_, gl hx, rfl⟩
  obtain ⟨e1, e2⟩ := He.ba e

  exact {
    k_BACK := sr (by simp [fa, fa0, fa1])
    k_MOST_COUNT := it (by simp [fa, fa0, fa1])
    k_MOST_LEFT := it (by simp [fa, fa0, fa1])
    k_MOST_VERSES := it (by simp [fa, fa0, fa1])
    k_ON := sr (by simp [fa, fa0, fa1])
    k_WAYS := gc (by simp [fa, fa0, fa1])
    f_abs := fr (by simp [fa, fa0, fa1])
    f_bool := fr (by simp [fa, fa0, fa1])
    f_enumerate := fr (by simp [fa, fa0, fa1])
    f_int := fr (by simp [fa, fa0, fa1])
    f_isinstance := fr (by simp [fa, fa0, fa1])
    f_len := fr (by simp [fa, fa0, fa1])
    f_range := fr (by simp [fa, fa0, fa1])
    f_str := fr (by simp [fa, fa0, fa1])
    f_tuple := fr (by simp [fa, fa0, fa1])
    g_Rhyme := gl (by simp [fa, fa0, fa1])
    d_law_random := gl (by simp [fa, fa0, fa1])
    d_law_below := gl (by simp [fa, fa0, fa1])
    d_law_pick := gl (by simp [fa, fa0, fa1])
    d_law_drawn := gl (by simp [fa, fa0, fa1])
    d_figures := gl (by simp [fa, fa0, fa1])
    d_number_in := gl (by simp [fa, fa0, fa1])
    d_is_between := gl (by simp [fa, fa0, fa1])
    d_is_verse := gl (by simp [fa, fa0, fa1])
    d_read := gl (by simp [fa, fa0, fa1])
    d_law_made := gl (by simp [fa, fa0, fa1])
    d_write := gl (by simp [fa, fa0, fa1])
    d_law := gl (by simp [fa, fa0, fa1])
    rh := ⟨He.cls_ok (c.facts (by simp [fa, fa0, fa1])), He.noat_ok (c.facts (by simp [fa, fa0, fa1])), He.noat_ok (c.facts (by simp [fa, fa0, fa1])), He.noat_ok (c.facts (by simp [fa, fa0, fa1]))⟩
    ins := insB_ok e1
    ways := fun H => He.tupB_ok e2 H
    mk_Rhyme := c.facts (by simp [fa, fa0, fa1])
    mt_Rhyme_uequ := c.facts (by simp [fa, fa0, fa1]) }
theorem facts_of {P : Program} {w : World} {K : PySem.W.Frag} {h : Heap} {mg : Str → Option Value} {f : Addr} (X : K.In h) (G : h.Ns mainGlobals mg) (hfa : mg ("law" : Str) = some (.ref f)) (c : He.SaysD fa fn K) (e : exB K = true) :
    ∃ fd : FuncData, (∀ (s : Shared) (v : Value), BindsTo s fd ⟨[v], []⟩ [("_law_script", v)]) ∧ ∀ base : Heap, K.In base → base.Ns mainGlobals mg → FnOk P w K mg base (L2.CX P w) 6 f fd ["_law_script"] (sp_law K) := by
  have T : Tw K mg := tw_of X G c e
  have ef := hfa.symm.trans T.d_law
  cases ef
  have F_law_random := c.def_ 0 (d := ⟨("_law_random", none), "_law_random", "_law_random", defArgs s_law_random, defBody s_law_random, defScope s_law_random, [], []⟩) rfl
  have F_law_below := c.def_ 1 (d := ⟨("_law_below", none), "_law_below", "_law_below", defArgs s_law_below, defBody s_law_below, defScope s_law_below, [], []⟩) rfl
  have F_law_pick := c.def_ 2 (d := ⟨("_law_pick", none), "_law_pick", "_law_pick", defArgs s_law_pick, defBody s_law_pick, defScope s_law_pick, [], []⟩) rfl
  have F_law_drawn := c.def_ 3 (d := ⟨("_law_drawn", none), "_law_drawn", "_law_drawn", defArgs s_law_drawn, defBody s_law_drawn, defScope s_law_drawn, [], []⟩) rfl
  have F_figures := c.def_ 4 (d := ⟨("figures", none), "figures", "figures", defArgs s_figures, defBody s_figures, defScope s_figures, [], []⟩) rfl
  have F_number_in := c.def_ 5 (d := ⟨("number_in", none), "number_in", "number_in", defArgs s_number_in, defBody s_number_in, defScope s_number_in, [], []⟩) rfl
  have F_is_between := c.def_ 6 (d := ⟨("is_between", none), "is_between", "is_between", defArgs s_is_between, defBody s_is_between, defScope s_is_between, [], []⟩) rfl
  have F_is_verse := c.def_ 7 (d := ⟨("is_verse", none), "is_verse", "is_verse", defArgs s_is_verse, defBody s_is_verse, defScope s_is_verse, [], []⟩) rfl
  have F_Rhymeu_initu := c.def_ 8 (d := ⟨("Rhyme", some "__init__"), "__init__", "Rhyme.__init__", defArgs s_Rhymeu_initu, defBody s_Rhymeu_initu, defScope s_Rhymeu_initu, [], []⟩) rfl
  have F_read := c.def_ 9 (d := ⟨("read", none), "read", "read", defArgs s_read, defBody s_read, defScope s_read, [], []⟩) rfl
  have F_law_made := c.def_ 10 (d := ⟨("_law_made", none), "_law_made", "_law_made", defArgs s_law_made, defBody s_law_made, defScope s_law_made, [], []⟩) rfl
  have F_write := c.def_ 11 (d := ⟨("write", none), "write", "write", defArgs s_write, defBody s_write, defScope s_write, [], []⟩) rfl
  have F_Rhymeu_equ := c.def_ 12 (d := ⟨("Rhyme", some "__eq__"), "__eq__", "Rhyme.__eq__", defArgs s_Rhymeu_equ, defBody s_Rhymeu_equ, defScope s_Rhymeu_equ, [], []⟩) rfl
  have F_law := c.def_ 13 (d := ⟨("law", none), "law", "law", defArgs s_law, defBody s_law, defScope s_law, [], []⟩) rfl
  obtain ⟨fd, F⟩ := F_law
  have b := FunD.bindsA (ps := ["_law_script"]) F fun _ _ _ _ _ _ us hl => match us, hl with | [_], _ => rfl
  refine ⟨fd, fun s v => b s [v] rfl, fun base _ _ => ?_⟩
  have c_law_random : Cl P w K mg base 1 "_law_random" (sp_law_random K) [] := ok_law_random T  F_law_random
  have c_law_below : Cl P w K mg base 1 "_law_below" (sp_law_below K) [] := ok_law_below T  F_law_below
  have c_law_pick : Cl P w K mg base 2 "_law_pick" (sp_law_pick K) [] := ok_law_pick T c_law_below F_law_pick
  have c_law_drawn : Cl P w K mg base 3 "_law_drawn" (sp_law_drawn K) [] := ok_law_drawn T c_law_below c_law_pick F_law_drawn
  have c_figures : Cl P w K mg base 1 "figures" (sp_figures K) [] := ok_figures T  F_figures
  have c_number_in : Cl P w K mg base 2 "number_in" (sp_number_in K) [] := ok_number_in T c_figures F_number_in
  have c_is_between : Cl P w K mg base 1 "is_between" (sp_is_between K) [] := ok_is_between T  F_is_between
  have c_is_verse : Cl P w K mg base 2 "is_verse" (sp_is_verse K) [] := ok_is_verse T c_is_between F_is_verse
  have c_Rhymeu_initu : Ck P w K mg base 3 "Rhyme" (He.ga K "Rhyme") (sp_Rhymeu_initu K) := ok_Rhymeu_initu T c_is_verse c_is_between F_Rhymeu_initu
  have c_read : Cl P w K mg base 5 "read" (sp_read K) [] := ok_read T c_number_in c_Rhymeu_initu F_read
  have c_law_made : Cl P w K mg base 5 "_law_made" (sp_law_made K) [] := ok_law_made T c_Rhymeu_initu F_law_made
  have c_write : Cl P w K mg base 1 "write" (sp_write K) [] := ok_write T  F_write
  have c_Rhymeu_equ : Cm P w K mg base 1 (He.ga K "Rhyme") "__eq__" (sp_Rhymeu_equ K) := ok_Rhymeu_equ T  F_Rhymeu_equ
  exact okf_law T c_law_random c_law_drawn c_read c_law_made c_write c_Rhymeu_equ F
end Z
open PySem PySem.W PySem.Calls PyProof.Rows
theorem PySem.Challenge.cw_outrhymes_k09_texts_there_and_back_holds : PySem.Challenge.rw_outrhymes_k09_texts_there_and_back.Holds := by
  w_on; o_law
  refine HandSHeadRun.head_any (r := OpenLaw.row PySem.Challenge.rw_outrhymes_k09_texts_there_and_back) (q := view (OpenLaw.row PySem.Challenge.rw_outrhymes_k09_texts_there_and_back).prog [27]) (H := Z.hk) (ob := Z.ob) (M := 4000) (loose := Z.loose) (d := HandSHeadRun.topDef (OpenLaw.row PySem.Challenge.rw_outrhymes_k09_texts_there_and_back).prog 27) (kwd := []) Z.ob_eq
    (by kernel_rfl) (fun s => by kernel_rfl) Z.run (by kernel_rfl) (by kernel_rfl) (by kernel_rfl) (by rfl) (by first | assumption | decide +kernel) (by decide +kernel) ⟨rfl, rfl, rfl, rfl, rfl, by decide +kernel⟩ ?hw ?hc
  case hw => w_witness2
  case hc =>
    refine Z.walk_ofW (CW := fun w => L2.CX (PySem.Challenge.rw_outrhymes_k09_texts_there_and_back).prog w) (ll := PySem.Challenge.rw_outrhymes_k09_texts_there_and_back) (mm := 63) (lv := 6) (arg := "_law_script") rfl (by decide) (by kernel_rfl) (by exact ⟨rfl, by decide, by decide⟩) ?F ?CX
    case CX => exact fun w H s e s' z => Z.noout z
    case F =>
      intro w mg fa h Y G hmg0
      obtain ⟨K, KX, c⟩ := Y
      have hmg : mg ("law" : PySem.Str) = some (.ref fa) := by
        have e : (HandSHeadRun.topDef (OpenLaw.row PySem.Challenge.rw_outrhymes_k09_texts_there_and_back).prog 27).name = ("law" : PySem.Str) := by kernel_rfl
        rw [← e]
        exact hmg0
      obtain ⟨fd, hb, hF⟩ := Z.facts_of (P := (PySem.Challenge.rw_outrhymes_k09_texts_there_and_back).prog) (w := w) KX G hmg c.t.d c.more
      exact ⟨K, fd, Z.sp_law K, KX, hb, fun H a ns hl hS => Z.law_pre a ns hS hl, hF⟩
