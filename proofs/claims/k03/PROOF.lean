import PyProof.Rows.All
import Wide.All
import OpenK.AllK
import Wide.FinOn
import HandS.ForMost
import HandS.Exc
import HandS.ExcOwn
import HandS.WordsExc
import HandS.TryOnly
import HandS.TryMany
import HandS.IsInst
import HandS.Defaults
import HandS.Codes
import HandS.TupAny
import HandS.TupMul
import HandS.FStr
import HandS.CallSlots
import HandS.Wide
import HandS.Property
import HandS.Small
import HandS.Style
import HandS.Conv
import HandS.Deep
import HandS.HeadHook2
import HandS.Walk
import KE.GoesEnum
import KE.GoesMore
import HandS.OwnEq
import HandS.Head0
import HandS.Head1
import HandS.Head2
import HandS.HeadEnd
import HandS.HeadHook1
import PyProof.LongRange
import PyProof.ListRange
import HandS.NoneIn
import KE.KTupSum
import KE.KStateDown
import HandS.Ends
import HandS.More
import HandS.Words
import HandS.HeadHook3
import HandS.HeadHook4
import PySem.Challenge.RW_outrhymes_k03_whole_runs
set_option Elab.async false
set_option linter.all false
set_option maxRecDepth 100000
set_option maxHeartbeats 0
/-! Readings' short names; calls by what is known of a def (Cl), of a class (Ck), of a method (Cm). -/
namespace Z
open PySem PySem.Spec PyProof.Rows L2
abbrev oAdd : R2 := rI0 fun i j => .int (i + j)
abbrev oSub : R2 := rI0 fun i j => .int (i - j)
abbrev oMul : R2 := rI CMul fun i j => .int (i * j)
abbrev oMulW : R2 := rI CMulW fun i j => .int (i * j)
abbrev oFdv : R2 := rI CDiv fun i j => .int (i / j)
abbrev oFdvW : R2 := rI CDivW fun i j => .int (i / j)
abbrev oMod : R2 := rI (fun _ j => 0 < j) fun i j => .int (i % j)
abbrev oPow : R2 := rI CPow fun i j => .int (i ^ j.toNat)
abbrev oLt : R2 := rI0 fun i j => .bl (decide (i < j))
abbrev oLe : R2 := rI0 fun i j => .bl (decide (i ≤ j))
abbrev oGt : R2 := rI0 fun i j => .bl (decide (j < i))
abbrev oGe : R2 := rI0 fun i j => .bl (decide (j ≤ i))
abbrev oIsN : R2 := fun x y H Q => y = .non ∧ Q (.bl (decide (x = .non))) H
abbrev oNotN : R2 := fun x y H Q => y = .non ∧ Q (.bl (!decide (x = .non))) H
abbrev oAddS : R2 := fun x y H Q => ∃ i j, x = .str i ∧ y = .str j ∧ i.length + j.length ≤ sizeLine ∧ Q (.str (i ++ j)) H
abbrev oNeg : V → Hp → VK → Prop := rU fun i => .int (-i)
abbrev RL := List V → Hp → VK → Prop
def cLen (K : PySem.W.Frag) : RL := fun xs H Q => ∃ p ys, xs = [.ref p] ∧ (SqL K H p ys ∨ SqT K H p ys) ∧ Q (.int ys.length) H
def cLenS : RL := fun xs H Q => ∃ z, xs = [.str z] ∧ z.length ≤ sizeLine ∧ Q (.int z.length) H
def cInt : RL := fun xs H Q => (∃ i, xs = [.int i] ∧ Q (.int i) H) ∨ ∃ k, xs = [.bl k] ∧ Q (.int (if k then 1 else 0)) H
def cIntS : RL := fun xs H Q => ∃ a n, xs = [.str a] ∧ PySem.intText? a = some n ∧ a.length ≤ 640 ∧ Q (.int n) H
def cAbs : RL := fun xs H Q => ∃ i, xs = [.int i] ∧ Q (.int (if i < 0 then -i else i)) H
def cStr : RL := fun xs H Q => ∃ i, xs = [.int i] ∧ i.natAbs.log2 < 1920 ∧ Q (.str (toString i)) H
def cTup (K : PySem.W.Frag) : RL := fun xs H Q => ∃ p ys, xs = [.ref p] ∧ ((SqL K H p ys ∧ ∀ l, H l = none → Q (.ref l) (upd H l (.tup ys))) ∨ (SqT K H p ys ∧ Q (.ref p) H))
def cLst (K : PySem.W.Frag) : RL := fun xs H Q => ∃ p ys, xs = [.ref p] ∧ (SqL K H p ys ∨ SqT K H p ys) ∧ ∀ l, H l = none → Q (.ref l) (upd H l (.lst ys))
def mSplit : V → RL := fun x xs H Q => ∃ a b, x = .str a ∧ xs = [.str b] ∧ (b.length == 0) = false ∧ a.length + 2 ≤ sizeLine ∧ rNewStrs (Txt.split a b) H Q
def mJoin (K : PySem.W.Frag) : V → RL := fun x xs H Q => ∃ a p, ∃ ys : List Str, x = .str a ∧ xs = [.ref p] ∧ (SqL K H p (ys.map V.str) ∨ SqT K H p (ys.map V.str)) ∧ (ys.map (·.length)).sum + ys.length * a.length ≤ 16777216 ∧ Q (.str (Txt.join a ys)) H
def tJoined (ts : List TE) : TE := fun σ H Q => tJs ts Str.empty σ H fun out H1 => Q (.str out) H1

/-- all that was known stays -/
abbrev Ex (H H' : Hp) : Prop := ∀ b o, H b = some o → H' b = some o
theorem ex_refl (H : Hp) : Ex H H := fun _ _ h => h
theorem ex_trans {H H1 H2 : Hp} (a : Ex H H1) (b : Ex H1 H2) : Ex H H2 := fun x o h => b x o (a x o h)
theorem ex_new {H : Hp} {p : Addr} {o : HO} (h : H p = none) : Ex H (upd H p o) := fun a u e => by
  rw [upd_ne (ne_of_none e h)]
  exact e
theorem ex_mut {H H' : Hp} {p : Addr} {o : HO} (e : Ex H H') (h : H p = none) : Ex H (upd H' p o) := fun a u ha => by
  rw [upd_ne (ne_of_none ha h)]
  exact e a u ha
theorem ex_free {H H' : Hp} {p : Addr} (e : Ex H H') (h : H' p = none) : H p = none := by
  cases h1 : H p with
  | none => rfl
  | some o =>
    have h2 := e p o h1
    rw [h] at h2
    cases h2
/-- but for one place -/
abbrev Fx (d : Addr) (H H' : Hp) : Prop := ∀ b o, b ≠ d → H b = some o → H' b = some o
theorem fx_refl (d : Addr) (H : Hp) : Fx d H H := fun _ _ _ h => h
theorem fx_trans {d : Addr} {H H1 H2 : Hp} (a : Fx d H H1) (b : Fx d H1 H2) : Fx d H H2 := fun x o n h => b x o n (a x o n h)
theorem fx_ex {d : Addr} {H H' : Hp} (h : Ex H H') : Fx d H H' := fun b o _ e => h b o e
theorem ex_fx {d : Addr} {H0 H H' : Hp} (e : Ex H0 H) (n : H0 d = none) (f : Fx d H H') : Ex H0 H' := fun b o q => f b o (fun z => by subst z; rw [n] at q; cases q) (e b o q)
theorem fx_upd {d : Addr} {H : Hp} {o : HO} : Fx d H (upd H d o) := fun b u n e => by
  rw [upd_ne n]
  exact e
theorem sq_ex {K : PySem.W.Frag} {H H' : Hp} {a : Addr} {xs : List V} (e : Ex H H') (h : SqL K H a xs) : SqL K H' a xs := by
  rcases h with (h | ⟨o, h⟩) | h
  · exact .inl (.inl (e _ _ h))
  · exact .inl (.inr ⟨o, e _ _ h⟩)
  · exact .inr h
theorem sqt_ex {K : PySem.W.Frag} {H H' : Hp} {a : Addr} {xs : List V} (e : Ex H H') (h : SqT K H a xs) : SqT K H' a xs := by
  rcases h with (h | ⟨o, h⟩) | h
  · exact .inl (.inl (e _ _ h))
  · exact .inl (.inr ⟨o, e _ _ h⟩)
  · exact .inr h

theorem at0 {a : V} {l : List V} : atI (a :: l) 0 = some a := atI_nat (j := 0) rfl
theorem at1 {a b : V} {l : List V} : atI (a :: b :: l) 1 = some b := atI_nat (j := 1) rfl
theorem at2 {a b c : V} {l : List V} : atI (a :: b :: c :: l) 2 = some c := atI_nat (j := 2) rfl
theorem at3 {a b c d : V} {l : List V} : atI (a :: b :: c :: d :: l) 3 = some d := atI_nat (j := 3) rfl
theorem ix0 {n : Nat} : ixN (n + 1) 0 = some 0 := by
  unfold ixN
  rw [if_pos (by omega), if_pos (by omega)]
  rfl
theorem ix1 {n : Nat} : ixN (n + 1 + 1) 1 = some 1 := by
  unfold ixN
  rw [if_pos (by omega), if_pos (by omega)]
  rfl
theorem d_int (a b : Int) : decide (V.int a = V.int b) = decide (a = b) := by
  by_cases h : a = b
  · rw [decide_eq_true h, decide_eq_true (congrArg V.int h)]
  · rw [decide_eq_false h, decide_eq_false fun z => h (V.int.inj z)]
theorem d_str (a b : Str) : decide (V.str a = V.str b) = decide (a = b) := by
  by_cases h : a = b
  · rw [decide_eq_true h, decide_eq_true (congrArg V.str h)]
  · rw [decide_eq_false h, decide_eq_false fun z => h (V.str.inj z)]
theorem v_int {a b : Int} (h : decide (V.int a = V.int b) = true) : a = b := V.int.inj (of_decide_eq_true h)
theorem v_int' {a b : Int} (h : decide (V.int a = V.int b) = false) : a ≠ b := fun z => of_decide_eq_false h (congrArg V.int z)
theorem iteT' {c : Bool} {A B : Prop} (h : c = true) (k : A) : if c = true then A else B := by
  rw [if_pos h]
  exact k
theorem iteF' {c : Bool} {A B : Prop} (h : c = false) (k : B) : if c = true then A else B := by
  rw [h, if_neg Bool.false_ne_true]
  exact k
/-- an if whose test has the answer b and makes nothing | may make things -/
theorem if_go {c : TT} {t u : TS} {D : Ends} {σ : L2.St} {H : Hp} (b : Bool) (h : ∀ Q : Bool → Hp → Prop, Q b H → c σ H Q) (ht : b = true → t D σ H) (hf : b = false → u D σ H) : tIfS c t u D σ H := by
  refine h _ ?_
  cases b with
  | true => exact iteT (ht rfl)
  | false => exact iteF (hf rfl)
theorem if_goH {c : TT} {t u : TS} {D : Ends} {σ : L2.St} {H : Hp} (b : Bool) (h : ∀ Q : Bool → Hp → Prop, (∀ H', Ex H H' → Q b H') → c σ H Q) (ht : ∀ H', Ex H H' → b = true → t D σ H') (hf : ∀ H', Ex H H' → b = false → u D σ H') : tIfS c t u D σ H := by
  refine h _ fun H' e => ?_
  cases b with
  | true => exact iteT (ht H' e rfl)
  | false => exact iteF (hf H' e rfl)
/-- a and b, where a's answer is known -/
theorem and_go {t u : TT} {σ : L2.St} {H : Hp} {Q : Bool → Hp → Prop} (a b : Bool) (h : ∀ Q : Bool → Hp → Prop, Q a H → t σ H Q) (hu : a = true → ∀ Q : Bool → Hp → Prop, Q b H → u σ H Q) (q : Q (a && b) H) : tAnd t u σ H Q := by
  refine h _ ?_
  cases a with
  | true => exact iteT (hu rfl Q q)
  | false => exact iteF q
theorem or_go {t u : TT} {σ : L2.St} {H : Hp} {Q : Bool → Hp → Prop} (a b : Bool) (h : ∀ Q : Bool → Hp → Prop, Q a H → t σ H Q) (hu : a = false → ∀ Q : Bool → Hp → Prop, Q b H → u σ H Q) (q : Q (a || b) H) : tOr t u σ H Q := by
  refine h _ ?_
  cases a with
  | true => exact iteT q
  | false => exact iteF (hu rfl Q q)
theorem andV_go {ta tb : TE} {σ : L2.St} {H : Hp} {Q : VK} (a b : Bool) (h : ∀ Q : VK, Q (.bl a) H → ta σ H Q) (hu : a = true → ∀ Q : VK, Q (.bl b) H → tb σ H Q) (q : Q (.bl (a && b)) H) : tAndV ta tb σ H Q := by
  refine h _ ⟨a, rfl, ?_⟩
  cases a with
  | true => exact iteT (hu rfl Q q)
  | false => exact iteF q
theorem orV_go {ta tb : TE} {σ : L2.St} {H : Hp} {Q : VK} (a b : Bool) (h : ∀ Q : VK, Q (.bl a) H → ta σ H Q) (hu : a = false → ∀ Q : VK, Q (.bl b) H → tb σ H Q) (q : Q (.bl (a || b)) H) : tOrV ta tb σ H Q := by
  refine h _ ⟨a, rfl, ?_⟩
  cases a with
  | true => exact iteT q
  | false => exact iteF (hu rfl Q q)
/-- a def that is called by its name, with these defaults -/
structure Cl (P : Program) (w : World) (K : PySem.W.Frag) (mg : Str → Option Value) (base : Heap) (k : Nat) (x : Str) (sp : Sp) (dvs : List V) : Prop where
  ex : ∃ (f : Addr) (fd : FuncData) (ps : List Str) (ds : List Value), FnOk P w K mg base (L2.CX P w) k f fd ps sp ∧ mg x = some (.ref f) ∧ PySem.W.keepIn K (.ref f) = true ∧ Binds K fd ps ds ∧ Vals dvs ds
/-- a method of the class at C -/
structure Cm (P : Program) (w : World) (K : PySem.W.Frag) (mg : Str → Option Value) (base : Heap) (k : Nat) (C : Addr) (m : Str) (sp : Sp) : Prop where
  ex : ∃ (f : Addr) (fd : FuncData) (ps : List Str), Cls K C ∧ Meth K C m f ∧ FnOk P w K mg base (L2.CX P w) k f fd ps sp ∧ Binds K fd ps []
/-- a class that is made by its name -/
structure Ck (P : Program) (w : World) (K : PySem.W.Frag) (mg : Str → Option Value) (base : Heap) (k : Nat) (x : Str) (C : Addr) (sp : Sp) : Prop where
  ex : ∃ (f : Addr) (fd : FuncData) (ps : List Str), Mk K C f ∧ FnOk P w K mg base (L2.CX P w) k f fd ps sp ∧ mg x = some (.ref C) ∧ Binds K fd ps []
section
variable {X : Cx} {k j : Nat} {C : Addr} {x m : Str} {sp : Sp} {dvs : List V} {p pos apos : Pos} {e o : Expr} {es : List Expr} {ta : TE} {t : TA} {E : XK}
theorem pe_cl (c : Cl X.prog X.w X.K X.mg X.base k x sp dvs) (hr : Room j X.A) (hk : k ≤ j) (hg : Gl X x) (hx : Passes (L2.CX X.prog X.w) X E) (ha : PA X (e :: es) t)
    (hdb : (x == ("__debug__" : Str)) = false := by decide) (he : starEach (e :: es) X.env = (false, eval e X.env) :: starEach es X.env := by rfl) (hpl : (backTo pos (starEach es X.env)).any (·.1) = false := by rfl) :
    PE X (.Call (.Name x p) (e :: es) [] pos) (tCall sp dvs E t) := by
  obtain ⟨f, fd, ps, ds, F, hm, kp, b, d⟩ := c.ex
  exact pe_call F (hr.mono hk) hg hm kp b d hx ha hdb he hpl
theorem pe_clS {W : L2.St → XK} (c : Cl X.prog X.w X.K X.mg X.base k x sp dvs) (hr : Room j X.A) (hk : k ≤ j) (hg : Gl X x) (hx : ∀ σ, PassesAt (L2.CX X.prog X.w) X σ (W σ)) (ha : PA X (e :: es) t)
    (hdb : (x == ("__debug__" : Str)) = false := by decide) (he : starEach (e :: es) X.env = (false, eval e X.env) :: starEach es X.env := by rfl) (hpl : (backTo pos (starEach es X.env)).any (·.1) = false := by rfl) :
    PE X (.Call (.Name x p) (e :: es) [] pos) (tCallSD sp dvs W t) := by
  obtain ⟨f, fd, ps, ds, F, hm, kp, b, d⟩ := c.ex
  exact pe_callSD F (hr.mono hk) hg hm kp b d hx ha hdb he hpl
theorem pe_mkc (c : Ck X.prog X.w X.K X.mg X.base k x C sp) (hr : Room j X.A) (hk : k + 1 ≤ j) (hg : Gl X x) (hx : Passes (L2.CX X.prog X.w) X E) (ha : PA X (e :: es) t)
    (hdb : (x == ("__debug__" : Str)) = false := by decide) (he : starEach (e :: es) X.env = (false, eval e X.env) :: starEach es X.env := by rfl) (hpl : (backTo pos (starEach es X.env)).any (·.1) = false := by rfl) :
    PE X (.Call (.Name x p) (e :: es) [] pos) (tMake C sp [] E t) := by
  obtain ⟨f, fd, ps, M, F, hm, b⟩ := c.ex
  exact pe_make M F (hr.mono hk) hg hm b .nil hx ha hdb he hpl
end
section
variable {P : Program} {w : World} {K : PySem.W.Frag} {mg : Str → Option Value} {base : Heap} {N : List Str} {qual : Str} {sc : Scope} {f : Addr} {cdv : Value} {A : Around} {outer : List Env} {s : Shared} {H : Hp} {E : XK}
theorem takesE : Takes (cxOf (L2.CX P w) P w K mg base N qual sc f cdv A outer s H E) (fun cls d _ H' => E cls d H') := L2.takes_of rfl rfl rfl rfl
theorem passE : Passes (L2.CX P w) (cxOf (L2.CX P w) P w K mg base N qual sc f cdv A outer s H E) E := L2.passes_call takesE (fun _ _ _ _ h => h)
theorem ownsE : PassesOwn (model P w) (cxOf (L2.CX P w) P w K mg base N qual sc f cdv A outer s H E).A (cxOf (L2.CX P w) P w K mg base N qual sc f cdv A outer s H E).env (cxOf (L2.CX P w) P w K mg base N qual sc f cdv A outer s H E).xe :=
  L2.passes_of rfl
/-- what the top leaves of a def: st its statement -/
abbrev FnT (K : PySem.W.Frag) (x qual : Str) (st : Stmt) (dvs : List V) (f : Addr) (fd : FuncData) : Prop := FunD K x qual (defArgs st) (defBody st) (defScope st) dvs [] f fd
theorem cl_of {x : Str} {st : Stmt} {ps : List Str} {k : Nat} {sp : Sp} (F : ∃ fd, FnT K x x st [] f fd) (hm : mg x = some (.ref f)) (S : FnScope N ps (defScope st)) (len : ∀ vs H Q E, sp vs H Q E → vs.length = ps.length)
    (hb : ∀ (kV doc pm : Value) (an : Option Addr) (cdv ct : Value) (us : List Value), us.length = ps.length → bindArgs (PySem.W.fnOf x x (defArgs st) (defBody st) (defScope st) .none kV doc pm an cdv ct) ⟨us, []⟩ = pure (ps.zip us))
    (body : ∀ (cdv : Value) (A : Around) (outer : List Env) (s : Shared) (H : Hp) (vs : List V) (Q : VK) (E : XK), Room k (A.deeper (envOfC x (defScope st) s.heap.objs.size f cdv)) → sp vs H Q E →
      ∃ t, PSs (cxOf (L2.CX P w) P w K mg base N x (defScope st) f cdv A outer s H E) (defBody st) t ∧ t { nx := fun _ H' => Q .non H', rt := Q } (start N vs) H) : Cl P w K mg base (k + 1) x sp [] := by
  obtain ⟨fd, F⟩ := F
  exact ⟨f, fd, ps, [], F.ok S len body, hm, F.kp, F.bindsN hb, .nil⟩
end
end Z
/-! Data on the heap, comprehensions that make nothing else, enumerate over a tuple. -/
namespace Z
open PySem PySem.Spec PyProof.Rows L2
/-! ### data -/
mutual
theorem dp_ex {K : PySem.W.Frag} {H H' : Hp} (e : Ex H H') : ∀ {v : V} {d : PyData}, Dp K H v d → Dp K H' v d
  | _, _, .non => .non
  | _, _, .bl b => .bl b
  | _, _, .int i => .int i
  | _, _, .str x => .str x
  | _, _, .lst h a => .lst (sq_ex e h) (dpa_ex e a)
  | _, _, .tup h a => .tup (sqt_ex e h) (dpa_ex e a)
theorem dpa_ex {K : PySem.W.Frag} {H H' : Hp} (e : Ex H H') : ∀ {v : List V} {d : List PyData}, DpAll K H v d → DpAll K H' v d
  | _, _, .nil => .nil
  | _, _, .cons h a => .cons (dp_ex e h) (dpa_ex e a)
end
/-- neither a tuple nor a locked one stands there -/
def NoT : Option HO → Prop
  | some (.tup _) => False
  | some (.frz _ _) => False
  | none => False
  | _ => True
/-- a tuple is still there where one other thing alone has changed -/
theorem sqt_fxN {K : PySem.W.Frag} {H H' : Hp} {a d : Addr} {xs : List V} (hd : NoT (H d)) (e : Fx d H H') (h : SqT K H a xs) : SqT K H' a xs := by
  rcases h with (h | ⟨o, h⟩) | h
  · exact .inl (.inl (e _ _ (fun z => by rw [← z, h] at hd; exact hd) h))
  · exact .inl (.inr ⟨o, e _ _ (fun z => by rw [← z, h] at hd; exact hd) h⟩)
  · exact .inr h
theorem noT_l {H : Hp} {d : Addr} {zs : List V} (h : H d = some (.lst zs)) : NoT (H d) := by
  rw [h]
  exact trivial
theorem noT_i {H : Hp} {d C dx : Addr} {fs : List (Str × V)} (h : H d = some (.ins C dx fs)) : NoT (H d) := by
  rw [h]
  exact trivial
mutual
/-- no list within -/
def flatD : PyData → Bool
  | .none => true
  | .bool _ => true
  | .int _ => true
  | .str _ => true
  | .list _ => false
  | .tuple ds => flatDs ds
  | .dict _ => false
def flatDs : List PyData → Bool
  | [] => true
  | d :: ds => flatD d && flatDs ds
end
mutual
theorem dp_fxN {K : PySem.W.Frag} {H H' : Hp} {l : Addr} (hl : NoT (H l)) (e : Fx l H H') : ∀ {v : V} {d : PyData}, flatD d = true → Dp K H v d → Dp K H' v d
  | _, _, _, .non => .non
  | _, _, _, .bl b => .bl b
  | _, _, _, .int i => .int i
  | _, _, _, .str x => .str x
  | _, .list _, f, .lst h a => nomatch f
  | _, .tuple ds, f, .tup h a => .tup (sqt_fxN hl e h) (dpa_fxN hl e (d := ds) f a)
theorem dpa_fxN {K : PySem.W.Frag} {H H' : Hp} {l : Addr} (hl : NoT (H l)) (e : Fx l H H') : ∀ {v : List V} {d : List PyData}, flatDs d = true → DpAll K H v d → DpAll K H' v d
  | _, _, _, .nil => .nil
  | _, d :: ds, f, .cons h a => .cons (dp_fxN hl e (Bool.and_eq_true_iff.mp (show (flatD d && flatDs ds) = true from f)).1 h) (dpa_fxN hl e (Bool.and_eq_true_iff.mp (show (flatD d && flatDs ds) = true from f)).2 a)
end
/-- the name of the class of data -/
def tyN : PyData → String
  | .none => "NoneType"
  | .bool _ => "bool"
  | .int _ => "int"
  | .str _ => "str"
  | .list _ => "list"
  | .tuple _ => "tuple"
  | .dict _ => "dict"
theorem dp_ty {K : PySem.W.Frag} {H : Hp} {v : V} {d : PyData} (h : Dp K H v d) : TyX K H v (.type (tyN d)) := by
  cases h with
  | non => exact .base .non
  | bl b => exact .base (.bl b)
  | int i => exact .base (.int i)
  | str x => exact .base (.str x)
  | lst h _ =>
    rcases h with (h | ⟨o, h⟩) | ⟨o, _, _, h, c, _⟩
    · exact .base (.lst h)
    · exact .base (.frz h)
    · exact .kList h c
  | tup h _ =>
    rcases h with (h | ⟨o, h⟩) | ⟨o, _, _, h, c, _⟩
    · exact .base (.tup h)
    · exact .fTuple h
    · exact .kTuple h c
theorem dpa_len {K : PySem.W.Frag} {H : Hp} : ∀ {vs : List V} {ds : List PyData}, DpAll K H vs ds → vs.length = ds.length
  | _, _, .nil => rfl
  | _, _, .cons _ a => congrArg (· + 1) (dpa_len a)
theorem dpa_get {K : PySem.W.Frag} {H : Hp} : ∀ {vs : List V} {ds : List PyData} {i : Nat} {d : PyData}, DpAll K H vs ds → ds[i]? = some d → ∃ v, vs[i]? = some v ∧ Dp K H v d
  | _, _, _, _, .nil, e => by simp at e
  | _, _, 0, _, .cons h a, e => ⟨_, rfl, by
    have e2 := Option.some.inj e
    rw [← e2]
    exact h⟩
  | _, _, i + 1, _, .cons h a, e => dpa_get (i := i) a e
theorem dpa_get' {K : PySem.W.Frag} {H : Hp} : ∀ {vs : List V} {ds : List PyData} {i : Nat} {v : V}, DpAll K H vs ds → vs[i]? = some v → ∃ d, ds[i]? = some d ∧ Dp K H v d
  | _, _, _, _, .nil, e => by simp at e
  | _, _, 0, _, .cons h a, e => ⟨_, rfl, by
    have e2 := Option.some.inj e
    rw [← e2]
    exact h⟩
  | _, _, i + 1, _, .cons h a, e => dpa_get' (i := i) a e
theorem dp_tup {K : PySem.W.Frag} {H : Hp} {v : V} {ds : List PyData} (h : Dp K H v (.tuple ds)) : ∃ a xs, v = .ref a ∧ SqT K H a xs ∧ DpAll K H xs ds := by
  cases h with
  | tup h a => exact ⟨_, _, rfl, h, a⟩
theorem dp_lst {K : PySem.W.Frag} {H : Hp} {v : V} {ds : List PyData} (h : Dp K H v (.list ds)) : ∃ a xs, v = .ref a ∧ SqL K H a xs ∧ DpAll K H xs ds := by
  cases h with
  | lst h a => exact ⟨_, _, rfl, h, a⟩
theorem dp_int {K : PySem.W.Frag} {H : Hp} {v : V} {i : Int} (h : Dp K H v (.int i)) : v = .int i := by
  cases h
  rfl
theorem dp_str {K : PySem.W.Frag} {H : Hp} {v : V} {x : Str} (h : Dp K H v (.str x)) : v = .str x := by
  cases h
  rfl
theorem dpa_snoc {K : PySem.W.Frag} {H : Hp} {v : V} {d : PyData} (h : Dp K H v d) : ∀ {vs : List V} {ds : List PyData}, DpAll K H vs ds → DpAll K H (vs ++ [v]) (ds ++ [d])
  | _, _, .nil => .cons h .nil
  | _, _, .cons g a => .cons g (dpa_snoc h a)
theorem dpa_ints {K : PySem.W.Frag} {H : Hp} : ∀ ns : List Int, DpAll K H (ns.map V.int) (ns.map PyData.int)
  | [] => .nil
  | n :: ns => .cons (.int n) (dpa_ints ns)
/-- isinstance of data with a built-in class -/
theorem isi_go {K : PySem.W.Frag} {H : Hp} {v : V} {d : PyData} {c : String} {b : Bool} {Q : VK} (h : Dp K H v d) (e : kitB (tyN d) c = some b) (q : Q (.bl b) H) : rIsi K [v, .ty c] H Q :=
  ⟨v, .ty c, _, _, b, rfl, .ty c, dp_ty h, kit_ty e, q⟩
/-- a list by its places -/
theorem map_range_get {α β : Type} (l : List α) (f : α → β) (d : α) {n : Nat} (hn : n = l.length) : (List.range n).map (fun i => f (l.getD i d)) = l.map f := by
  subst hn
  refine List.ext_getElem? fun i => ?_
  rw [List.getElem?_map, List.getElem?_map]
  by_cases h : i < l.length
  · rw [List.getElem?_range h, List.getElem?_eq_getElem h]
    show some (f (l.getD i d)) = some (f l[i])
    rw [List.getD_eq_getElem?_getD, List.getElem?_eq_getElem h]
    rfl
  · rw [List.getElem?_eq_none_iff.mpr (by rw [List.length_range]; omega), List.getElem?_eq_none_iff.mpr (by omega)]
    rfl
/-! ### comprehensions -/
section
variable {J : It} {n : Nat} {G : Hp → Prop} {Y : Nat → Hp → V → Hp → Prop}
/-- a comprehension whose test and element make nothing that lasts: p i, f i at the turn i -/
theorem lc_pure (w : Walk J n G Y) {g : TG} {tt : TT} {te : TE} {vs : List Nat} {σ : L2.St} {H1 : Hp} {D : Addr} {Qd : Hp → Prop} (p : Nat → Bool) (f : Nat → V) (hD : H1 D = none) (hn : n < sizeLine) (hG : ∀ H, Ex H1 H → G H)
    (hs : ∀ i x H H', i < n → Ex H1 H → Y i H x H' → ∀ (Q : VK) (Zf : Hp → Prop), (p i = true → ∀ H4, Ex H H4 → Q (f i) H4) → (p i = false → ∀ H4, Ex H H4 → Zf H4) →
      g x (wipe σ vs) H' fun σ2 H2 => wipe σ2 vs = wipe σ vs ∧ tt σ2 H2 fun b H3 => if b = true then te σ2 H3 Q else Zf H3)
    (hd : ∀ H, Ex H1 H → H D = some (.lst (((List.range n).filter p).map f)) → Qd H) :
    ∃ W : Nat → Nat → Hp → Prop, (∃ m, W 0 m (upd H1 D (.lst []))) ∧ ∀ i m H, W i m H →
      (J.stop i H ∧ Qd H) ∨ (J.go i H ∧ ∃ Nx : Hp → Prop, (∀ H', Nx H' → ∃ m', m' < m ∧ W (i + 1) m' H') ∧ ∀ x H', J.yld i H x H' → g x (wipe σ vs) H' fun σ2 H2 => wipe σ2 vs = wipe σ vs ∧ tt σ2 H2 fun b H3 =>
        if b = true then te σ2 H3 fun y H4 => ∃ acc, H4 D = some (.lst acc) ∧ acc.length < sizeLine ∧ Nx (upd H4 D (.lst (acc ++ [y]))) else Nx H3) := by
  refine lc_it w (fun i H => Ex H1 H ∧ H D = some (.lst (((List.range i).filter p).map f))) ⟨ex_new hD, upd_same⟩ (fun i H _ h => hG H h.1) (fun i x H H' hi ⟨e, hDi⟩ y => ?_) (fun H h => hd H h.1 h.2)
  refine hs i x H H' hi e y _ _ (fun hp H4 e4 => ⟨_, e4 D _ hDi, ?_, ex_mut (ex_trans e e4) hD, ?_⟩) (fun hp H4 e4 => ⟨ex_trans e e4, ?_⟩)
  · refine Nat.lt_of_le_of_lt ?_ hn
    rw [List.length_map]
    refine Nat.le_trans (List.length_filter_le ..) ?_
    rw [List.length_range]
    omega
  · rw [upd_same, List.range_succ, List.filter_append, List.map_append]
    simp [List.filter, hp]
  · rw [e4 D _ hDi, List.range_succ, List.filter_append, List.map_append]
    simp [List.filter, hp]
theorem filter_all {α : Type} (l : List α) : l.filter (fun _ => true) = l := by
  induction l with
  | nil => rfl
  | cons a l ih => rw [List.filter_cons_of_pos rfl, ih]
/-- without a test -/
theorem lc_map (w : Walk J n G Y) {g : TG} {te : TE} {vs : List Nat} {σ : L2.St} {H1 : Hp} {D : Addr} {Qd : Hp → Prop} (f : Nat → V) (hD : H1 D = none) (hn : n < sizeLine) (hG : ∀ H, Ex H1 H → G H)
    (hs : ∀ i x H H', i < n → Ex H1 H → Y i H x H' → ∀ (Q : VK) (Zf : Hp → Prop), (∀ H4, Ex H H4 → Q (f i) H4) →
      g x (wipe σ vs) H' fun σ2 H2 => wipe σ2 vs = wipe σ vs ∧ tYes σ2 H2 fun b H3 => if b = true then te σ2 H3 Q else Zf H3)
    (hd : ∀ H, Ex H1 H → H D = some (.lst ((List.range n).map f)) → Qd H) :
    ∃ W : Nat → Nat → Hp → Prop, (∃ m, W 0 m (upd H1 D (.lst []))) ∧ ∀ i m H, W i m H →
      (J.stop i H ∧ Qd H) ∨ (J.go i H ∧ ∃ Nx : Hp → Prop, (∀ H', Nx H' → ∃ m', m' < m ∧ W (i + 1) m' H') ∧ ∀ x H', J.yld i H x H' → g x (wipe σ vs) H' fun σ2 H2 => wipe σ2 vs = wipe σ vs ∧ tYes σ2 H2 fun b H3 =>
        if b = true then te σ2 H3 fun y H4 => ∃ acc, H4 D = some (.lst acc) ∧ acc.length < sizeLine ∧ Nx (upd H4 D (.lst (acc ++ [y]))) else Nx H3) :=
  lc_pure w (fun _ => true) f hD hn hG (fun i x H H' hi e y Q Zf h _ => hs i x H H' hi e y Q Zf (h rfl)) (fun H e h => hd H e (by rw [filter_all] at h; exact h))
end
end Z
namespace Z
open PySem PySem.Spec PyProof.Rows L2
/-! ### enumerate over a tuple -/
/-- the tuple's items with their places, each pair new -/
def IteT (K : PySem.W.Frag) (a : Addr) : It :=
  ⟨fun i H => ∃ (xs : List V) (x : V), SqT K H a xs ∧ xs[i]? = some x, fun i H v H' => ∃ T x, v = .ref T ∧ H T = none ∧ H' = upd H T (.tup [.int (i : Nat), x]) ∧ ∀ xs, SqT K H a xs → xs[i]? = some x,
    fun i H => ∃ xs : List V, SqT K H a xs ∧ xs.length = i⟩
theorem tupiter_ne {h : Heap} {it a : Addr} {i : Nat} {items : Array Value} (h1 : h.IsTupleIter it a i) (h2 : h.IsTuple a items) : a ≠ it := by
  intro z
  subst z
  obtain ⟨o, e, c, _⟩ := h1
  obtain ⟨o2, e2, c2, _⟩ := h2
  rw [e] at e2
  cases e2
  rw [c] at c2
  revert c2
  decide
theorem turn_enumT {P : Program} {w : World} {K : PySem.W.Frag} {elts : List Expr} {kk : Nat} {tpos : Pos} (a e it : Addr) :
    Turn P w K (.Tuple elts kk tpos) (IteT K a) [e, it] e (fun i h => (∃ old, IsEnum h e it ((i : Nat) : Int) old) ∧ h.IsTupleIter it a i ∧ e ≠ it ∧ e ≠ a) where
  mem := List.mem_cons_self ..
  obj := fun i h ⟨⟨old, he⟩, ⟨o, ho, _, hd⟩, _⟩ b hb => by
    rcases (show b = e ∨ b = it by simpa using hb) with rfl | rfl
    · exact ⟨_, he, fun v q => nomatch q⟩
    · exact ⟨o, ho, fun v q => by rw [hd] at q; cases q⟩
  keep := fun i h h' ⟨⟨old, he⟩, hi, hne⟩ k => ⟨⟨old, k e (by simp) _ he⟩, hi.at fun o q => k it (by simp) o q, hne⟩
  item := by
    intro X hP hw hK hc i pins s σ H E I hf st ⟨xs, x, hq, hx⟩
    subst hP hw hK
    obtain ⟨⟨old, he⟩, hit, hne, hea⟩ := st
    obtain ⟨its, rv, pt, hz⟩ := I.tuple hq
    obtain ⟨u, hu, ru⟩ := rv.get hx
    have hel : e < s.heap.objs.size := Heap.lt_size he
    have hil : it < s.heap.objs.size := by
      obtain ⟨_, q, _⟩ := hit
      exact Heap.lt_size q
    have hia : a ≠ it := tupiter_ne hit pt
    have hlt : i < its.toArray.size := by
      have := (List.getElem?_eq_some_iff.mp hu).1
      simpa using this
    have D : Draws X.prog X.w X.A.in1 it [it, a] its.toArray.size (fun i v => its.toArray[i]? = some v) (fun i h => h.IsTupleIter it a i ∧ h.IsTuple a its.toArray) :=
      Draws.tuple (show X.A.in1.handled = none from I.ok.hd hc) it a hia its.toArray
    refine wpAny_pyNext_enum_itemC D he ⟨hit, pt⟩ hlt hne (by simp [hne, hea]) fun y h' tk hy ho hst' hT hsz hk => ⟨_, rfl, ?_⟩
    refine wpAny_letOwnedTupleGo_enum (s := { s with heap := h', toks := tk + 1 }) ho fun h2 he2 sb => ?_
    have ey : y = u := by
      have q : its.toArray[i]? = some u := by simpa using hu
      rw [q] at hy
      exact (Option.some.inj hy).symm
    have hT2 := (sb.2 s.heap.objs.size (Nat.ne_of_gt hel)).trans hT
    rw [ey] at hT2
    have kept : ∀ b ob, b ∉ [e, it] → s.heap.get? b = some ob → h2.get? b = some ob := fun b ob hb q => by
      have n1 : b ≠ e := fun z => hb (by simp [z])
      have n2 : b ≠ it := fun z => hb (by simp [z])
      exact (sb.2 b n1).trans (hk b ob n1 n2 q)
    have hI := I.turnedNew (t' := tk + 1) (T := s.heap.objs.size) (ob := .tup [.int (i : Nat), x]) kept hf (Nat.le_refl _)
      ⟨(by decide : 2 ≤ sizeLine), [.int i tk, u], .cons ⟨_, rfl⟩ (.cons ru .nil), ⟨_, hT2, rfl, _, rfl⟩⟩
    refine ⟨.ref s.heap.objs.size, _, hI, rfl, ⟨_, x, rfl, I.hok.fresh (Nat.le_refl _), rfl, fun ys hy => by rw [I.tuple_inj hy hq]; exact hx⟩, ⟨⟨y, ?_⟩, hst'.1.at fun o q => (sb.2 it (Ne.symm hne)).trans q, hne, hea⟩, fun b hb => ?_⟩
    · rw [show ((i + 1 : Nat) : Int) = (i : Int) + 1 by omega]
      exact he2
    · have hb2 : b < s.heap.objs.size := by
        rcases (show b = e ∨ b = it by simpa using hb) with rfl | rfl
        · exact hel
        · exact hil
      rw [upd_ne (Nat.ne_of_lt hb2)]
      exact (hf b hb).1
  done := by
    intro X hP hw hK hc i pins s σ H E I hf st ⟨xs, hq, hx⟩
    subst hP hw hK
    obtain ⟨⟨old, he⟩, hit, hne, hea⟩ := st
    obtain ⟨its, rv, pt, hz⟩ := I.tuple hq
    have hia : a ≠ it := tupiter_ne hit pt
    have hl : its.toArray.size = i := by
      rw [← hx, rv.length]
      simp
    have D : Draws X.prog X.w X.A.in1 it [it, a] its.toArray.size (fun i v => its.toArray[i]? = some v) (fun i h => h.IsTupleIter it a i ∧ h.IsTuple a its.toArray) :=
      Draws.tuple (show X.A.in1.handled = none from I.ok.hd hc) it a hia its.toArray
    refine wpAny_pyNext_enum_endD D he ⟨by rw [hl]; exact hit, pt⟩ fun h' eb => ⟨rfl, I.turnedL (t' := s.toks) (ch := [e, it]) (fun b o hb q => eb b o (fun z => hb (by simp [z])) q) hf⟩
  self := fun A i s Q E ⟨⟨_, he⟩, _⟩ h => wpAny_pyIter_enum he h
theorem meets_enum1 {v : Value} {o : Obj} {G : Heap → Prop} (B : Begins v o G) :
    Meets (Builtin.«enumerate.__new__» ⟨[.type "enumerate", v], []⟩) (fun _ R s => G s.heap ∧ R (.ok (.ret (.ref (s.heap.push o).objs.size)))
      { s with heap := (s.heap.push o).push { cls := .type "enumerate", data := .fields #[.none, .bool false, .ref s.heap.objs.size, rawInt 0, .none, .none] } }) :=
  .of_wp fun prog w A R s ⟨h1, h⟩ => by
    obtain ⟨hp, gs, dr, tk, os⟩ := s
    have hsub := sub_enumerate
    have it1 : ∀ {A' : Around} {E : Value → Shared → Prop} {Q : Value → Shared → Prop}, Q (.ref hp.objs.size) ⟨hp.push o, gs, dr, tk, os⟩ → wpAny (model prog w) A' (pyIter v) Q E ⟨hp, gs, dr, tk, os⟩ :=
      fun q => B.iter prog w _ _ ⟨hp, gs, dr, tk, os⟩ _ h1 q
    wp_walk using it1
    refine wpAny_stack_any fun st => wpAny_pure ?_
    split
    · rename_i c _ _ _ _ _
      cases (c == Value.type "enumerate") <;> (wp_walk using it1; exact ⟨_, rfl, h⟩)
    · wp_walk using it1
      exact ⟨_, rfl, h⟩
/-- enumerate(t) of a tuple: two new objects -/
theorem call_enumT {P : Program} {w : World} {A : Around} {E : Value → Shared → Prop} {s : Shared} {t : Addr} {items : Array Value} {Q : Value → Shared → Prop} (ht : s.heap.IsTuple t items)
    (h : ∀ h', IsEnum h' (s.heap.objs.size + 1) s.heap.objs.size 0 .none → h'.IsTupleIter s.heap.objs.size t 0 → (∀ b o, s.heap.get? b = some o → h'.get? b = some o) → Q (.ref (s.heap.objs.size + 1)) { s with heap := h' }) :
    wpAny (model P w) A (call (.type "enumerate") [.ref t]) Q E s := by
  refine callType_new F.called_enumerate (by decide) (F.typeCall_enumerate_1 _) (F.newCall_enumerate_1 _) (fun obj => F.args_object_init_2 obj _) F.entry_enumerate_new (meets_enum1 (begins_tuple t items)) ⟨ht, ?_⟩
  have z1 : ∀ ob : Obj, (s.heap.push ob).objs.size = s.heap.objs.size + 1 := fun ob => Heap.size_push ..
  show _ ∧ _
  rw [z1]
  have q := Heap.get?_push_size (s.heap.push { cls := .type "tuple_iterator", data := .fields #[.ref t, .int 0 0] }) (o := { cls := .type "enumerate", data := .fields #[.none, .bool false, .ref s.heap.objs.size, rawInt 0, .none, .none] }) rfl
  rw [z1] at q
  exact ⟨⟨_, q, rfl⟩, h _ q ⟨_, Heap.get?_push_of_some _ (Heap.get?_push_size _ rfl), rfl, rfl⟩ fun b o x => Heap.get?_push_of_some _ (Heap.get?_push_of_some _ x)⟩
def iEnumT (K : PySem.W.Frag) (ta : TA) : TI := fun σ H R => ta σ H fun vs H1 => ∃ a xs, vs = [.ref a] ∧ SqT K H1 a xs ∧ R (IteT K a) H1
theorem pi_enumT {X : Cx} {e : Expr} {ta : TA} {p pos tpos : Pos} {elts : List Expr} {kk : Nat} (hg : Gl X "enumerate") (hm : X.mg "enumerate" = none) (ha : PA X [e] ta) (hs : starEach [e] X.env = [(false, eval e X.env)] := by rfl) :
    PI X (.Tuple elts kk tpos) (.Call (.Name "enumerate" p) [e] [] pos) (iEnumT X.K ta) := by
  refine ⟨fun pins s σ H R I h => Call_ (ld_blt I hg hm boot_enumerate (PyProof.Rows.callWith_type1 (thn (ha.run pos pins s σ H _ I h) fun us s1 ⟨vs, H1, I1, r1, a, xs, ex, hq, q⟩ => ?_) hs rfl))⟩
  subst ex
  rcases r1 with _ | ⟨r, rr⟩
  cases rr
  cases r
  obtain ⟨its, rv, pt, hz⟩ := I1.tuple hq
  refine call_enumT pt fun h' he hit hk => wpAny_pyIter_enum he ?_
  have la : a < s1.heap.objs.size := pt.lt
  refine ⟨s1.heap.objs.size + 1, [s1.heap.objs.size + 1, s1.heap.objs.size], _, _, H1, rfl, I1.kept (t' := s1.toks) hk, turn_enumT a _ _, ⟨⟨.none, he⟩, hit, Nat.succ_ne_self _, fun z => ?_⟩, fun b hb => ?_, q⟩
  · rw [← z] at la
    exact absurd la (Nat.not_lt.mpr (Nat.le_succ _))
  · have hle : s1.heap.objs.size ≤ b := by
      rcases (show b = s1.heap.objs.size + 1 ∨ b = s1.heap.objs.size by simpa using hb) with z | z
      · rw [z]
        exact Nat.le_succ _
      · rw [z]
        exact Nat.le_refl _
    exact I1.fpOk hle (I1.hok.fresh hle)
theorem walk_enumT {K : PySem.W.Frag} {a : Addr} {xs : List V} : Walk (IteT K a) xs.length (fun H => SqT K H a xs) (YPair (fun i => some (.int (i : Nat))) (fun i => xs[i]?)) := by
  refine ⟨fun i _ hi q => ⟨xs, xs[i], q, by simp [hi]⟩, fun _ q => ⟨xs, q, rfl⟩, fun i H v H' _ q ⟨T, x, h1, h2, h3, h4⟩ => ?_⟩
  exact ⟨T, .int (i : Nat), x, h1, h2, h3, rfl, h4 xs q⟩
end Z
namespace Z
open PySem PySem.Spec PyProof.Rows L2
local macro_rules | `(tactic| walk_at "look") => `(tactic| first | assumption | exact upd_same | exact SqL.of (by assumption) | exact SqT.of (by assumption) | exact SqL.of upd_same | exact SqT.of upd_same)
local macro_rules | `(tactic| walk_at "at") => `(tactic| first | exact at0 | exact at1 | exact at2 | exact at3 | exact ix0 | exact ix1 | assumption | exact atI_nat (by rfl))
local macro_rules | `(tactic| walk_at "sd") => `(tactic| ((try dsimp only); first | assumption | omega | (unfold CMul; omega) | (unfold CDiv; omega) | (unfold CPow; decide) | decide))
local macro_rules | `(tactic| walk_at "st") => `(tactic| first
  | (refine ⟨_, rfl, ?_⟩)
  | (refine ⟨_, _, rfl, rfl, ?_⟩)
  | (refine ⟨rfl, ?_⟩)
  | (refine .inl ⟨_, rfl, ?_⟩)
  | (refine ⟨_, _, _, _, rfl, rfl, (by walk_at "look"), (by walk_at "at"), ?_⟩)
  | (refine ⟨_, _, rfl, .inl (by walk_at "look"), ?_⟩)
  | (refine And.intro (by walk_at "sd") ?_)
  | fail "no step")
local macro_rules | `(tactic| walk_at "go") => `(tactic| repeat' (walk_at "st"))
local macro_rules | `(tactic| walk_at "ans") => `(tactic| (intro Q q; (repeat' (walk_at "st")); exact q))

/-- the law's source of numbers -/
def DSt (H : Hp) (d : Addr) : Prop := ∃ (s x : Int) (r : List Int), H d = some (.lst (.int s :: .int x :: r.map V.int)) ∧ 0 ≤ s ∧ s < 2147483647 ∧ 0 ≤ x ∧ (∀ y ∈ r, 0 ≤ y) ∧ r.length ≤ 63
@[irreducible] def sp_law_below (K : PySem.W.Frag) : Sp := fun vs H Q _ => ∃ (d : Addr) (n : Int), vs = [.ref d, .int n] ∧ DSt H d ∧ 0 < n ∧ n < 2 ^ 200 ∧
  ∀ (r : Int) (H' : Hp), 0 ≤ r → r < n → DSt H' d → Fx d H H' → Q (.int r) H'
def t_law_below_0a_0 (K : PySem.W.Frag) (E : XK) : TS := (tAsg (tBM K "list" rPopAt (tVar 0) (tCons (tC (.int 2)) tNil)) (gSub (tVar 0) (tC (.int 1)) rSetL))

def t_law_below_1a_2 (K : PySem.W.Frag) (E : XK) : TS := (tRet (tVar 2))

def t_law_below_1a_1 (K : PySem.W.Frag) (E : XK) : TS := tSeq (tAsg (tOp oFdvW (tOp (rIxL K) (tVar 0) (tC (.int 1))) (tVar 1)) (gSub (tVar 0) (tC (.int 1)) rSetL)) (t_law_below_1a_2 K E)

def t_law_below_1a_0 (K : PySem.W.Frag) (E : XK) : TS := tSeq (tAsg (tOp oMod (tCB cInt (tCons (tOp (rIxL K) (tVar 0) (tC (.int 1))) tNil)) (tVar 1)) (gName 2)) (t_law_below_1a_1 K E)

def t_law_below_3 (K : PySem.W.Frag) (E : XK) : TS := (tRet (tOp oMod (tCB cInt (tCons (tOp oFdv (tOp (rIxL K) (tVar 0) (tC (.int 0))) (tC (.int 64))) tNil)) (tVar 1)))

def t_law_below_2 (K : PySem.W.Frag) (E : XK) : TS := tSeq (tAsg (tOp oMod (tCB cInt (tCons (tOp oAdd (tOp oMul (tOp (rIxL K) (tVar 0) (tC (.int 0))) (tC (.int 48271))) (tC (.int 11))) tNil)) (tC (.int 2147483647))) (gSub (tVar 0) (tC (.int 0)) rSetL)) (t_law_below_3 K E)

@[irreducible] def t_law_below_1 (K : PySem.W.Frag) (E : XK) : TS := tSeq (tIfS (tTest (tOp oGt (tOp (rIxL K) (tVar 0) (tC (.int 1))) (tC (.int 0))))
    (t_law_below_1a_0 K E) tNext) (t_law_below_2 K E)

@[irreducible] def t_law_below_0 (K : PySem.W.Frag) (E : XK) : TS := tSeq (tIfS (tAnd (tTest (tOp rEq (tOp (rIxL K) (tVar 0) (tC (.int 1))) (tC (.int 0)))) (tTest (tOp oGt (tCB (cLen K) (tCons (tVar 0) tNil)) (tC (.int 2)))))
    (t_law_below_0a_0 K E) tNext) (t_law_below_1 K E)

theorem below_1 {K : PySem.W.Frag} {E : XK} {D : Ends} {d : Addr} {n : Int} {H : Hp} (hD : DSt H d) (hn0 : 0 < n) (hn1 : n < 2 ^ 200)
    (k : ∀ (r : Int) (H' : Hp), 0 ≤ r → r < n → DSt H' d → Fx d H H' → D.rt (.int r) H') : t_law_below_1 K E D [some (.ref d), some (.int n), none] H := by
  obtain ⟨s, x, r, hd, hs0, hs1, hx0, hr0, hrl⟩ := hD
  unfold t_law_below_1
  refine if_go (decide (0 < x)) (by walk_at "ans") (fun c => ?_) (fun c => ?_)
  · have hx : 0 < x := of_decide_eq_true c
    have hw : CDivW x n := wide_div hn0 (b := 200) (by omega) (by decide) (by decide)
    walk_at "go"
    refine k _ _ (Int.emod_nonneg _ (by omega)) (Int.emod_lt_of_pos _ hn0) ?_ fx_upd
    exact ⟨s, x / n, r, upd_same, hs0, hs1, Int.ediv_nonneg hx0 (by omega), hr0, hrl⟩
  · walk_at "go"
    refine k _ _ (Int.emod_nonneg _ (by omega)) (Int.emod_lt_of_pos _ hn0) ?_ fx_upd
    exact ⟨(s * 48271 + 11) % 2147483647, x, r, upd_same, Int.emod_nonneg _ (by omega), Int.emod_lt_of_pos _ (by omega), hx0, hr0, hrl⟩
theorem pure_law_below {K : PySem.W.Frag} (vs : List V) (H : Hp) (Q : VK) (E : XK) (h : sp_law_below K vs H Q E) : t_law_below_0 K E { nx := fun _ H' => Q .non H', rt := Q } (start ["_law_d", "_law_size", "_law_result"] vs) H := by
  unfold sp_law_below at h
  obtain ⟨d, n, rfl, hD, hn0, hn1, k⟩ := h
  show t_law_below_0 K E _ [some (.ref d), some (.int n), none] H
  unfold t_law_below_0
  obtain ⟨s, x, r, hd, hs0, hs1, hx0, hr0, hrl⟩ := id hD
  refine if_go (decide (V.int x = V.int 0) && decide (2 < ((r.map V.int).length : Int) + 1 + 1)) (fun Q q => and_go (decide (V.int x = V.int 0)) (decide (2 < ((r.map V.int).length : Int) + 1 + 1)) (by walk_at "ans") ?_ q) (fun c => ?_) (fun c => ?_)
  · intro _
    walk_at "ans"
  · rw [List.length_map] at c
    have c2 : 0 < r.length := by
      have := (Bool.and_eq_true_iff.mp c).2
      have := of_decide_eq_true this
      omega
    obtain ⟨y, r2, rfl⟩ : ∃ y r2, r = y :: r2 := by
      cases r with
      | nil => cases c2
      | cons y r2 => exact ⟨y, r2, rfl⟩
    have hi : seqIndex? 2 (V.int s :: V.int x :: (y :: r2).map V.int).length = some 2 := by
      unfold seqIndex?
      simp
      omega
    have ht : tyV K "list" (.ref d) H := .inl ⟨rfl, _, SqL.of hd⟩
    refine ⟨_, rfl, ht, d, _, 2, 2, _, rfl, rfl, hd, by decide, by decide, hi, rfl, ?_⟩
    walk_at "go"
    refine below_1 ⟨s, y, r2, upd_same, hs0, hs1, hr0 y (List.mem_cons_self ..), fun z hz => hr0 z (List.mem_cons_of_mem _ hz), by have := hrl; rw [List.length_cons] at this; omega⟩ hn0 hn1 fun r H' h1 h2 h3 h4 => k r H' h1 h2 h3 (fx_trans (fx_trans fx_upd fx_upd) h4)
  · exact below_1 hD hn0 hn1 k

/-- one of some items -/
@[irreducible] def sp_law_pick (K : PySem.W.Frag) : Sp := fun vs H Q _ => ∃ (d l : Addr) (xs : List V), vs = [.ref d, .ref l] ∧ DSt H d ∧ H l = some (.lst xs) ∧ l ≠ d ∧ xs ≠ [] ∧ xs.length ≤ 1000 ∧
  ∀ (i : Nat) (v : V) (H' : Hp), xs[i]? = some v → DSt H' d → Fx d H H' → Q v H'
def t_law_pick_0 (K : PySem.W.Frag) (E : XK) : TS := (tRet (tOp (rIxL K) (tVar 1) (tCall (sp_law_below K) [] E0 (tCons (tVar 0) (tCons (tCB (cLen K) (tCons (tVar 1) tNil)) tNil)))))

theorem pure_law_pick {K : PySem.W.Frag} (vs : List V) (H : Hp) (Q : VK) (E : XK) (h : sp_law_pick K vs H Q E) : t_law_pick_0 K E { nx := fun _ H' => Q .non H', rt := Q } (start ["_law_d", "_law_items"] vs) H := by
  unfold sp_law_pick at h
  obtain ⟨d, l, xs, rfl, hD, hl, nl, hne, hlen, k⟩ := h
  have h0 : 0 < xs.length := List.length_pos_iff.mpr hne
  walk_at "go"
  unfold sp_law_below
  refine ⟨d, xs.length, rfl, hD, by omega, by omega, fun r H' h1 h2 h3 h4 => ?_⟩
  have hr : r.toNat < xs.length := by omega
  have e : r = ((r.toNat : Nat) : Int) := by omega
  refine ⟨l, xs, r, xs[r.toNat], rfl, rfl, SqL.of (h4 l _ nl hl), at_of e (List.getElem?_eq_getElem hr), ?_⟩
  exact k r.toNat _ H' (List.getElem?_eq_getElem hr) h3 h4

end Z
namespace Z
open PySem PySem.Spec PyProof.Rows L2
local macro_rules | `(tactic| walk_at "look") => `(tactic| first | assumption | exact upd_same | exact SqL.of (by assumption) | exact SqT.of (by assumption) | exact SqL.of upd_same | exact SqT.of upd_same)
local macro_rules | `(tactic| walk_at "at") => `(tactic| first | exact at0 | exact at1 | exact at2 | exact at3 | exact ix0 | exact ix1 | assumption | exact atI_nat (by rfl))
local macro_rules | `(tactic| walk_at "sd") => `(tactic| ((try dsimp only); first | assumption | omega | (unfold CMul; omega) | (unfold CDiv; omega) | (unfold CPow; decide) | decide))
local macro_rules | `(tactic| walk_at "st") => `(tactic| first
  | (refine ⟨_, rfl, ?_⟩)
  | (refine ⟨_, _, rfl, rfl, ?_⟩)
  | (refine ⟨rfl, ?_⟩)
  | (refine .inl ⟨_, rfl, ?_⟩)
  | (refine ⟨_, _, _, _, rfl, rfl, (by walk_at "look"), (by walk_at "at"), ?_⟩)
  | (refine ⟨_, _, rfl, .inl (by walk_at "look"), ?_⟩)
  | (refine And.intro (by walk_at "sd") ?_)
  | fail "no step")
local macro_rules | `(tactic| walk_at "go") => `(tactic| repeat' (walk_at "st"))
local macro_rules | `(tactic| walk_at "ans") => `(tactic| (intro Q q; (repeat' (walk_at "st")); exact q))

/-! ### what a value is between -/
def isBet : PyData → Int → Int → Bool
  | .int i, a, b => decide (a ≤ i) && decide (i ≤ b)
  | _, _, _ => false
@[irreducible] def sp_is_between (K : PySem.W.Frag) : Sp := fun vs H Q _ => ∃ (v : V) (d : PyData) (a b : Int), vs = [v, .int a, .int b] ∧ Dp K H v d ∧ Q (.bl (isBet d a b)) H
def t_is_between_0 (K : PySem.W.Frag) (E : XK) : TS := (tRet (tAndV (tCB (rIsi K) (tCons (tVar 0) (tCons (tC (.ty "int")) tNil))) (tAndV (tNotV (tCB (rIsi K) (tCons (tVar 0) (tCons (tC (.ty "bool")) tNil)))) (tChain oLe oLe (tVar 1) (tVar 0) (tVar 2)))))

theorem pure_is_between {K : PySem.W.Frag} (vs : List V) (H : Hp) (Q : VK) (E : XK) (h : sp_is_between K vs H Q E) : t_is_between_0 K E { nx := fun _ H' => Q .non H', rt := Q } (start ["value", "least", "most"] vs) H := by
  unfold sp_is_between at h
  obtain ⟨v, d, a, b, rfl, hd, k⟩ := h
  show t_is_between_0 K E _ [some v, some (.int a), some (.int b)] H
  have i1 : ∀ (b1 : Bool), kitB (tyN d) "int" = some b1 → ∀ Q : VK, Q (.bl b1) H → (tCB (rIsi K) (tCons (tVar 0) (tCons (tC (.ty "int")) tNil))) [some v, some (.int a), some (.int b)] H Q :=
    fun b1 e Q q => ⟨v, rfl, isi_go hd e q⟩
  have i2 : ∀ (b1 : Bool), kitB (tyN d) "bool" = some b1 → ∀ Q : VK, Q (.bl (!b1)) H → (tNotV (tCB (rIsi K) (tCons (tVar 0) (tCons (tC (.ty "bool")) tNil)))) [some v, some (.int a), some (.int b)] H Q :=
    fun b1 e Q q => ⟨v, rfl, isi_go (Q := fun x H' => ∃ c, x = .bl c ∧ Q (.bl (!c)) H') hd e ⟨b1, rfl, q⟩⟩
  cases d with
  | int i =>
    obtain rfl := dp_int hd
    refine andV_go true (decide (a ≤ i) && decide (i ≤ b)) (i1 true (show kitB "int" "int" = some true by decide +kernel)) (fun _ Q q => andV_go true (decide (a ≤ i) && decide (i ≤ b)) (i2 false (show kitB "int" "bool" = some false by decide +kernel)) (fun _ Q q => ?_) q) k
    refine ⟨_, rfl, _, rfl, a, i, rfl, rfl, _, rfl, ?_⟩
    by_cases c : a ≤ i
    · rw [decide_eq_true c] at q ⊢
      exact iteT ⟨_, rfl, i, b, rfl, rfl, q⟩
    · rw [decide_eq_false c] at q ⊢
      exact iteF q
  | bool x =>
    exact andV_go true false (i1 true (show kitB "bool" "int" = some true by decide +kernel)) (fun _ Q q => andV_go false false (i2 true (show kitB "bool" "bool" = some true by decide +kernel)) (fun z => nomatch z) q) k
  | none => exact andV_go false false (i1 false (show kitB "NoneType" "int" = some false by decide +kernel)) (fun z => nomatch z) k
  | str x => exact andV_go false false (i1 false (show kitB "str" "int" = some false by decide +kernel)) (fun z => nomatch z) k
  | list x => exact andV_go false false (i1 false (show kitB "list" "int" = some false by decide +kernel)) (fun z => nomatch z) k
  | tuple x => exact andV_go false false (i1 false (show kitB "tuple" "int" = some false by decide +kernel)) (fun z => nomatch z) k
  | dict x => exact andV_go false false (i1 false (show kitB "dict" "int" = some false by decide +kernel)) (fun z => nomatch z) k

/-! ### verses -/
theorem str_beq (a b : Str) : (a == b) = decide (b = a) := by
  by_cases h : b = a
  · rw [decide_eq_true h, h]
    exact beq_self_eq_true a
  · rw [decide_eq_false h]
    exact beq_false_of_ne fun z => h z.symm
def isVerse : PyData → Bool
  | .tuple [d0, d1] => (match d0 with
    | .str x => (decide (x = "on") || decide (x = "back")) && isBet d1 1 6
    | _ => false)
  | _ => false
@[irreducible] def sp_is_verse (K : PySem.W.Frag) : Sp := fun vs H Q _ => ∃ (v : V) (d : PyData), vs = [v] ∧ Dp K H v d ∧ ∀ H', Ex H H' → Q (.bl (isVerse d)) H'
def t_is_verse_0a_0 (K : PySem.W.Frag) (E : XK) : TS := (tRet (tC (.bl false)))

def t_is_verse_1 (K : PySem.W.Frag) (E : XK) : TS := (tRet (tAndV (tOp (rIn K false) (tOp (rIxT K) (tVar 0) (tC (.int 0))) (tTup (tCons (tC (.str "on")) (tCons (tC (.str "back")) tNil)))) (tCall (sp_is_between K) [] E0 (tCons (tOp (rIxT K) (tVar 0) (tC (.int 1))) (tCons (tC (.int 1)) (tCons (tC (.int 6)) tNil))))))

@[irreducible] def t_is_verse_0 (K : PySem.W.Frag) (E : XK) : TS := tSeq (tIfS (tOr (tNot (tB (tCB (rIsi K) (tCons (tVar 0) (tCons (tC (.ty "tuple")) tNil))))) (tOr (tTest (tOp rNe (tCB (cLen K) (tCons (tVar 0) tNil)) (tC (.int 2)))) (tNot (tB (tCB (rIsi K) (tCons (tOp (rIxT K) (tVar 0) (tC (.int 0))) (tCons (tC (.ty "str")) tNil)))))))
    (t_is_verse_0a_0 K E) tNext) (t_is_verse_1 K E)

theorem verse_no {K : PySem.W.Frag} {H : Hp} {v : V} {d : PyData} {Q : VK} {E : XK} (h : Dp K H v d) (hn : kitB (tyN d) "tuple" = some false) (k : Q (.bl false) H) :
    t_is_verse_0 K E { nx := fun _ H' => Q .non H', rt := Q } [some v] H := by
  unfold t_is_verse_0
  refine if_go true (fun Q q => or_go true false (fun Q q => ⟨v, rfl, isi_go (Q := fun x H' => ∃ c, x = .bl c ∧ Q (!c) H') h hn ⟨false, rfl, q⟩⟩) (fun z => nomatch z) q) (fun _ => ?_) (fun z => nomatch z)
  exact k
theorem pure_is_verse {K : PySem.W.Frag} (vs : List V) (H : Hp) (Q : VK) (E : XK) (h : sp_is_verse K vs H Q E) : t_is_verse_0 K E { nx := fun _ H' => Q .non H', rt := Q } (start ["value"] vs) H := by
  unfold sp_is_verse at h
  obtain ⟨v, d, rfl, hd, k⟩ := h
  show t_is_verse_0 K E _ [some v] H
  cases d with
  | none => exact verse_no hd (show kitB "NoneType" "tuple" = some false by decide +kernel) (k H (ex_refl H))
  | bool x => exact verse_no hd (show kitB "bool" "tuple" = some false by decide +kernel) (k H (ex_refl H))
  | int x => exact verse_no hd (show kitB "int" "tuple" = some false by decide +kernel) (k H (ex_refl H))
  | str x => exact verse_no hd (show kitB "str" "tuple" = some false by decide +kernel) (k H (ex_refl H))
  | list x => exact verse_no hd (show kitB "list" "tuple" = some false by decide +kernel) (k H (ex_refl H))
  | dict x => exact verse_no hd (show kitB "dict" "tuple" = some false by decide +kernel) (k H (ex_refl H))
  | tuple ds =>
    have hy : kitB (tyN (.tuple ds)) "tuple" = some true := show kitB "tuple" "tuple" = some true by decide +kernel
    obtain ⟨a, xs, rfl, hs, hall⟩ := dp_tup hd
    have hl := dpa_len hall
    have h1 : ∀ Q : Bool → Hp → Prop, Q false H → (tNot (tB (tCB (rIsi K) (tCons (tVar 0) (tCons (tC (.ty "tuple")) tNil))))) [some (V.ref a)] H Q := fun Q q =>
      ⟨_, rfl, isi_go (Q := fun x H' => ∃ c, x = .bl c ∧ Q (!c) H') hd hy ⟨true, rfl, q⟩⟩
    have h2 : ∀ Q : Bool → Hp → Prop, Q (!decide (V.int (xs.length : Int) = V.int 2)) H → (tTest (tOp rNe (tCB (cLen K) (tCons (tVar 0) tNil)) (tC (.int 2)))) [some (V.ref a)] H Q := fun Q q =>
      ⟨_, rfl, a, xs, rfl, .inr hs, rfl, _, rfl, q⟩
    unfold t_is_verse_0
    by_cases hlen : xs.length = 2
    · obtain ⟨x0, x1, rfl⟩ : ∃ x0 x1, xs = [x0, x1] := by
        match xs, hlen with
        | [x0, x1], _ => exact ⟨x0, x1, rfl⟩
      cases hall with
      | cons e0 r =>
        rename_i d0 ds
        cases r with
        | cons e1 r =>
          rename_i d1 ds
          cases r
          have h3 : ∀ b1, kitB (tyN d0) "str" = some b1 → ∀ Q : Bool → Hp → Prop, Q (!b1) H → (tNot (tB (tCB (rIsi K) (tCons (tOp (rIxT K) (tVar 0) (tC (.int 0))) (tCons (tC (.ty "str")) tNil))))) [some (V.ref a)] H Q := fun b1 e Q q =>
            ⟨_, rfl, a, _, 0, x0, rfl, rfl, hs, at0, isi_go (Q := fun x H' => ∃ c, x = .bl c ∧ Q (!c) H') e0 e ⟨b1, rfl, q⟩⟩
          have go : ∀ b1, kitB (tyN d0) "str" = some b1 → (b1 = false → isVerse (.tuple [d0, d1]) = false) → (b1 = true → ∃ x, d0 = .str x) →
              tSeq (tIfS (tOr (tNot (tB (tCB (rIsi K) (tCons (tVar 0) (tCons (tC (.ty "tuple")) tNil))))) (tOr (tTest (tOp rNe (tCB (cLen K) (tCons (tVar 0) tNil)) (tC (.int 2)))) (tNot (tB (tCB (rIsi K) (tCons (tOp (rIxT K) (tVar 0) (tC (.int 0))) (tCons (tC (.ty "str")) tNil)))))))
                (t_is_verse_0a_0 K E) tNext) (t_is_verse_1 K E) { nx := fun _ H' => Q .non H', rt := Q } [some (V.ref a)] H := fun b1 e f1 f2 => by
            refine if_go (!b1) (fun Q q => or_go false (!b1) h1 (fun _ Q q => or_go false (!b1) (fun Q q => h2 Q (by rw [d_int]; exact q)) (fun _ => h3 b1 e) q) q) (fun c => ?_) (fun c => ?_)
            · have c2 : b1 = false := by simpa using c
              show Q (.bl false) H
              rw [← f1 c2]
              exact k H (ex_refl H)
            · have c2 : b1 = true := by simpa using c
              obtain ⟨x, rfl⟩ := f2 c2
              obtain rfl := dp_str e0
              refine ⟨_, rfl, a, _, 0, _, rfl, rfl, hs, at0, by decide, fun p hp => ?_⟩
              have hE : Ex H (upd H p (.tup [.str "on", .str "back"])) := ex_new hp
              have r1 : inV (.str x) [.str "on", .str "back"] = (decide (x = "on") || decide (x = "back")) := by
                show ((("on" : Str) == x) || ((("back" : Str) == x) || false)) = _
                rw [Bool.or_false, str_beq, str_beq]
              refine ⟨p, _, rfl, .inr (SqT.of upd_same), rfl, rfl, _, rfl, ?_⟩
              rw [if_neg Bool.false_ne_true, r1]
              by_cases c3 : (decide (x = "on") || decide (x = "back")) = true
              · rw [c3]
                refine iteT ⟨_, rfl, a, _, 1, x1, rfl, rfl, sqt_ex hE hs, at1, ?_⟩
                unfold sp_is_between
                refine ⟨x1, d1, 1, 6, rfl, dp_ex hE e1, ?_⟩
                have e5 : isBet d1 1 6 = isVerse (.tuple [.str x, d1]) := by
                  show _ = ((decide (x = "on") || decide (x = "back")) && isBet d1 1 6)
                  rw [c3, Bool.true_and]
                rw [e5]
                exact k _ hE
              · have c4 : (decide (x = "on") || decide (x = "back")) = false := by simpa using c3
                rw [c4]
                refine iteF ?_
                have e5 : false = isVerse (.tuple [.str x, d1]) := by
                  show _ = ((decide (x = "on") || decide (x = "back")) && isBet d1 1 6)
                  rw [c4, Bool.false_and]
                show Q (.bl false) _
                rw [e5]
                exact k _ hE
          cases d0 with
          | str x => exact go true (show kitB "str" "str" = some true by decide +kernel) (fun z => nomatch z) (fun _ => ⟨x, rfl⟩)
          | none => exact go false (show kitB "NoneType" "str" = some false by decide +kernel) (fun _ => rfl) (fun z => nomatch z)
          | bool x => exact go false (show kitB "bool" "str" = some false by decide +kernel) (fun _ => rfl) (fun z => nomatch z)
          | int x => exact go false (show kitB "int" "str" = some false by decide +kernel) (fun _ => rfl) (fun z => nomatch z)
          | list x => exact go false (show kitB "list" "str" = some false by decide +kernel) (fun _ => rfl) (fun z => nomatch z)
          | tuple x => exact go false (show kitB "tuple" "str" = some false by decide +kernel) (fun _ => rfl) (fun z => nomatch z)
          | dict x => exact go false (show kitB "dict" "str" = some false by decide +kernel) (fun _ => rfl) (fun z => nomatch z)
    · refine if_go true (fun Q q => or_go false true h1 (fun _ Q q => or_go true false (fun Q q => h2 Q (by rw [d_int, decide_eq_false (by omega)]; exact q)) (fun z => nomatch z) q) q) (fun _ => ?_) (fun z => nomatch z)
      have : isVerse (.tuple ds) = false := by
        match ds, hl with
        | [], _ => rfl
        | [_], _ => rfl
        | [_, _], h => exact absurd h hlen
        | _ :: _ :: _ :: _, _ => rfl
      show Q (.bl false) H
      rw [← this]
      exact k H (ex_refl H)

end Z
namespace Z
open PySem PySem.Spec PyProof.Rows L2
local macro_rules | `(tactic| walk_at "look") => `(tactic| first | assumption | exact upd_same | exact SqL.of (by assumption) | exact SqT.of (by assumption) | exact SqL.of upd_same | exact SqT.of upd_same)
local macro_rules | `(tactic| walk_at "at") => `(tactic| first | exact at0 | exact at1 | exact at2 | exact at3 | exact ix0 | exact ix1 | assumption | exact atI_nat (by rfl))
local macro_rules | `(tactic| walk_at "sd") => `(tactic| ((try dsimp only); first | assumption | omega | (unfold CMul; omega) | (unfold CDiv; omega) | (unfold CPow; decide) | decide))
local macro_rules | `(tactic| walk_at "st") => `(tactic| first
  | (refine ⟨_, rfl, ?_⟩)
  | (refine ⟨_, _, rfl, rfl, ?_⟩)
  | (refine ⟨rfl, ?_⟩)
  | (refine .inl ⟨_, rfl, ?_⟩)
  | (refine ⟨_, _, _, _, rfl, rfl, (by walk_at "look"), (by walk_at "at"), ?_⟩)
  | (refine ⟨_, _, rfl, .inl (by walk_at "look"), ?_⟩)
  | (refine And.intro (by walk_at "sd") ?_)
  | fail "no step")
local macro_rules | `(tactic| walk_at "go") => `(tactic| repeat' (walk_at "st"))
local macro_rules | `(tactic| walk_at "ans") => `(tactic| (intro Q q; (repeat' (walk_at "st")); exact q))

/-! ### rhymes: verses as data -/
abbrev Ve := Bool × Int
def wayS (b : Bool) : Str := if b then "on" else "back"
def vD (v : Ve) : PyData := .tuple [.str (wayS v.1), .int v.2]
def vsD (vs : List Ve) : PyData := .tuple (vs.map vD)
def riseOf (v : Ve) : Int := if v.1 then v.2 else 1 - v.2
def rises (vs : List Ve) : List Int := vs.map riseOf
/-- a right rhyme -/
structure RhOk (vs : List Ve) (left : Int) : Prop where
  l1 : 1 ≤ vs.length
  l4 : vs.length ≤ 4
  cnt : ∀ v ∈ vs, 1 ≤ v.2 ∧ v.2 ≤ 6
  lf : 1 ≤ left ∧ left ≤ 3
def rhF (tv : V) (left : Int) (tr : Addr) : List (Str × V) := putF "rises" (.ref tr) (putF "own_left" (.int left) (putF "own_verses" tv []))
theorem rhF_v (tv : V) (left : Int) (tr : Addr) : (rhF tv left tr).lookup ("own_verses" : Str) = some tv := by
  unfold rhF
  rw [lookup_putF, if_neg (by decide +kernel), lookup_putF, if_neg (by decide +kernel), lookup_putF, if_pos rfl]
theorem rhF_l (tv : V) (left : Int) (tr : Addr) : (rhF tv left tr).lookup ("own_left" : Str) = some (.int left) := by
  unfold rhF
  rw [lookup_putF, if_neg (by decide +kernel), lookup_putF, if_pos rfl]
theorem rhF_r (tv : V) (left : Int) (tr : Addr) : (rhF tv left tr).lookup ("rises" : Str) = some (.ref tr) := by
  unfold rhF
  rw [lookup_putF, if_pos rfl]
theorem rhF_no (tv : V) (left : Int) (tr : Addr) {m : Str} (h1 : ¬ m = "rises") (h2 : ¬ m = "own_left") (h3 : ¬ m = "own_verses") : (rhF tv left tr).lookup m = none := by
  unfold rhF
  rw [lookup_putF, if_neg h1, lookup_putF, if_neg h2, lookup_putF, if_neg h3]
  rfl
/-- the class as the top leaves it -/
structure RhC (K : PySem.W.Frag) : Prop where
  cl : Cls K (He.ga K "Rhyme")
  nv : NoAttr K (He.ga K "Rhyme") "own_verses"
  nl : NoAttr K (He.ga K "Rhyme") "own_left"
  nr : NoAttr K (He.ga K "Rhyme") "rises"
/-- a rhyme stands at a -/
def RhAt (K : PySem.W.Frag) (H : Hp) (a : Addr) (vs : List Ve) (left : Int) : Prop :=
  ∃ (dx : Addr) (tv : V) (tr : Addr), H a = some (.ins (He.ga K "Rhyme") dx (rhF tv left tr)) ∧ Dp K H tv (vsD vs) ∧ SqT K H tr ((rises vs).map V.int)
theorem rh_ex {K : PySem.W.Frag} {H H' : Hp} {a : Addr} {vs : List Ve} {left : Int} (e : Ex H H') (h : RhAt K H a vs left) : RhAt K H' a vs left := by
  obtain ⟨dx, tv, tr, h1, h2, h3⟩ := h
  exact ⟨dx, tv, tr, e _ _ h1, dp_ex e h2, sqt_ex e h3⟩
theorem vsD_flat (vs : List Ve) : flatD (vsD vs) = true := by
  show flatDs (vs.map vD) = true
  induction vs with
  | nil => rfl
  | cons v vs ih =>
    show (flatD (vD v) && flatDs (vs.map vD)) = true
    rw [ih]
    rfl
theorem rh_fx {K : PySem.W.Frag} {H H' : Hp} {a d : Addr} {vs : List Ve} {left : Int} (hd : NoT (H d)) (na : a ≠ d) (e : Fx d H H') (h : RhAt K H a vs left) : RhAt K H' a vs left := by
  obtain ⟨dx, tv, tr, h1, h2, h3⟩ := h
  exact ⟨dx, tv, tr, e _ _ na h1, dp_fxN hd e (vsD_flat vs) h2, sqt_fxN hd e h3⟩
theorem isVerse_vD {v : Ve} (h : 1 ≤ v.2 ∧ v.2 ≤ 6) : isVerse (vD v) = true := by
  show ((decide (wayS v.1 = "on") || decide (wayS v.1 = "back")) && (decide (1 ≤ v.2) && decide (v.2 ≤ 6))) = true
  rw [decide_eq_true h.1, decide_eq_true h.2]
  cases v.1 <;> rfl
/-- the i-th verse's own tuple -/
theorem vs_at {K : PySem.W.Frag} {H : Hp} {xs : List V} {vs : List Ve} {i : Nat} {x : V} (h : DpAll K H xs (vs.map vD)) (e : xs[i]? = some x) :
    ∃ v t, vs[i]? = some v ∧ x = .ref t ∧ SqT K H t [.str (wayS v.1), .int v.2] := by
  obtain ⟨d, h1, h2⟩ := dpa_get' h e
  rw [List.getElem?_map] at h1
  cases q : vs[i]? with
  | none =>
    rw [q] at h1
    cases h1
  | some v =>
    rw [q] at h1
    have e2 : vD v = d := Option.some.inj h1
    subst e2
    obtain ⟨t, ys, rfl, hs, ha⟩ := dp_tup h2
    refine ⟨v, t, rfl, rfl, ?_⟩
    cases ha with
    | cons a1 r =>
      cases r with
      | cons a2 r =>
        cases r
        rw [dp_str a1, dp_int a2] at hs
        exact hs
@[irreducible] def sp_Rhymeu_initu (K : PySem.W.Frag) : Sp := fun ws H Q _ => ∃ (p dx : Addr) (v : V) (vs : List Ve) (left : Int), ws = [.ref p, v, .int left] ∧ H p = some (.ins (He.ga K "Rhyme") dx []) ∧ Dp K H v (vsD vs) ∧ RhOk vs left ∧
  ∀ H' : Hp, RhAt K H' p vs left → (∀ b o, H b = some o → b ≠ p → H' b = some o) → Q .non H'
def t_Rhymeu_initu_0a_0 (K : PySem.W.Frag) (E : XK) : TS := tNever

def t_Rhymeu_initu_1a_0a_0 (K : PySem.W.Frag) (E : XK) : TS := tNever

@[irreducible] def t_Rhymeu_initu_1a_0 (K : PySem.W.Frag) (E : XK) : TS := (tIfS (tNot (tB (tCall (sp_is_verse K) [] E0 (tCons (tVar 4) tNil))))
    (t_Rhymeu_initu_1a_0a_0 K E) tNext)

def t_Rhymeu_initu_2a_0 (K : PySem.W.Frag) (E : XK) : TS := tNever

def t_Rhymeu_initu_5 (K : PySem.W.Frag) (E : XK) : TS := (sFld K (tVar 0) (tCB (cTup K) (tCons (tLc (iTup K (tVar 1)) (gTup K 2 (gCons (gName 5) (gCons (gName 6) gNil))) tYes (tIf (tTest (tOp rEq (tVar 5) (tC (.str "on")))) (tVar 6) (tOp oSub (tC (.int 1)) (tVar 6))) [5, 6]) tNil)) "rises")

def t_Rhymeu_initu_4 (K : PySem.W.Frag) (E : XK) : TS := tSeq (sFld K (tVar 0) (tVar 2) "own_left") (t_Rhymeu_initu_5 K E)

def t_Rhymeu_initu_3 (K : PySem.W.Frag) (E : XK) : TS := tSeq (sFld K (tVar 0) (tVar 1) "own_verses") (t_Rhymeu_initu_4 K E)

@[irreducible] def t_Rhymeu_initu_2 (K : PySem.W.Frag) (E : XK) : TS := tSeq (tIfS (tNot (tB (tCall (sp_is_between K) [] E0 (tCons (tVar 2) (tCons (tC (.int 1)) (tCons (tC (.int 3)) tNil))))))
    (t_Rhymeu_initu_2a_0 K E) tNext) (t_Rhymeu_initu_3 K E)

@[irreducible] def t_Rhymeu_initu_1 (K : PySem.W.Frag) (E : XK) : TS := tSeq (tFor (iEnumT K (tCons (tVar 1) tNil)) (gTup K 2 (gCons (gName 3) (gCons (gName 4) gNil)))
    (t_Rhymeu_initu_1a_0 K E)) (t_Rhymeu_initu_2 K E)

@[irreducible] def t_Rhymeu_initu_0 (K : PySem.W.Frag) (E : XK) : TS := tSeq (tIfS (tOr (tNot (tB (tCB (rIsi K) (tCons (tVar 1) (tCons (tC (.ty "tuple")) tNil))))) (tNot (tTest (tChain oLe oLe (tC (.int 1)) (tCB (cLen K) (tCons (tVar 1) tNil)) (tC (.int 4))))))
    (t_Rhymeu_initu_0a_0 K E) tNext) (t_Rhymeu_initu_1 K E)

theorem init_3 {K : PySem.W.Frag} {E : XK} {D : Ends} {p dx : Addr} {s3 s4 : Option V} {tv : V} {vs : List Ve} {left : Int} {H : Hp} (T : RhC K) (hp : H p = some (.ins (He.ga K "Rhyme") dx [])) (hv : Dp K H tv (vsD vs)) (hn : vs.length ≤ 4)
    (k : ∀ (σ' : L2.St) (H' : Hp), RhAt K H' p vs left → (∀ b o, H b = some o → b ≠ p → H' b = some o) → D.nx σ' H') : t_Rhymeu_initu_3 K E D [some (.ref p), some tv, some (.int left), s3, s4, none, none] H := by
  obtain ⟨a, xs, rfl, hs, hall⟩ := dp_tup hv
  have hl : xs.length = vs.length := by
    have := dpa_len hall
    rw [List.length_map] at this
    exact this
  refine ⟨_, rfl, _, rfl, p, _, dx, _, rfl, hp, T.cl, T.nv, (by show 0 < 1000; decide), ?_⟩
  refine ⟨_, rfl, _, rfl, p, _, dx, _, rfl, upd_same, T.cl, T.nl, (by show 1 < 1000; decide), ?_⟩
  rw [upd_upd]
  generalize hH2 : upd H p (.ins (He.ga K "Rhyme") dx (putF "own_left" (.int left) (putF "own_verses" (.ref a) []))) = H2
  have hp2 : H2 p = some (.ins (He.ga K "Rhyme") dx (putF "own_left" (.int left) (putF "own_verses" (.ref a) []))) := by
    rw [← hH2]
    exact upd_same
  have fx2 : Fx p H H2 := by
    rw [← hH2]
    exact fx_upd
  have hv2 : Dp K H2 (.ref a) (vsD vs) := dp_fxN (noT_i hp) fx2 (vsD_flat vs) hv
  have hs2 : SqT K H2 a xs := sqt_fxN (noT_i hp) fx2 hs
  have hall2 : DpAll K H2 xs (vs.map vD) := dpa_fxN (noT_i hp) fx2 (by exact vsD_flat vs) hall
  -- tuple([.. for way, count in verses])
  refine ⟨_, rfl, a, rfl, ⟨xs, hs2⟩, fun L hL => lc_map walk_tup (fun i => .int ((rises vs).getD i 0)) hL (by rw [hl]; exact Nat.lt_of_le_of_lt hn (by decide)) (fun H3 e => sqt_ex e hs2) ?_ ?_⟩
  · rintro i x H3 H4 hi e ⟨rfl, hx⟩ Q Zf q
    obtain ⟨ve, t, hve, rfl, ht⟩ := vs_at hall2 hx
    refine ⟨t, _, rfl, sqt_ex e ht, rfl, _, _, rfl, _, _, rfl, rfl, rfl, ?_⟩
    refine iteT (B := Zf H4) ?_
    have er : (rises vs).getD i 0 = riseOf ve := by
      unfold rises
      rw [List.getD_eq_getElem?_getD, List.getElem?_map, hve]
      rfl
    rw [er] at q
    refine ⟨_, rfl, rfl, _, rfl, ?_⟩
    rw [d_str]
    have q2 := q H4 (ex_refl H4)
    unfold riseOf at q2
    cases hb : ve.1 with
    | true =>
      rw [hb, if_pos rfl] at q2
      exact iteT ⟨_, rfl, q2⟩
    | false =>
      rw [hb, if_neg Bool.false_ne_true] at q2
      exact iteF ⟨_, rfl, 1, _, rfl, rfl, q2⟩
  · intro H3 e3 hL3
    have e4 : (List.range xs.length).map (fun i => V.int ((rises vs).getD i 0)) = (rises vs).map V.int := by
      refine map_range_get (rises vs) V.int 0 ?_
      unfold rises
      rw [List.length_map]
      exact hl
    rw [e4] at hL3
    refine ⟨L, _, rfl, .inl ⟨SqL.of hL3, fun l hl3 => ?_⟩⟩
    have hp4 : (upd H3 l (.tup ((rises vs).map V.int))) p = some (.ins (He.ga K "Rhyme") dx (putF "own_left" (.int left) (putF "own_verses" (.ref a) []))) := ex_new hl3 _ _ (e3 _ _ hp2)
    refine ⟨_, rfl, p, _, dx, _, rfl, hp4, T.cl, T.nr, (by show 2 < 1000; decide), ?_⟩
    refine k _ _ ⟨dx, .ref a, l, upd_same, ?_, ?_⟩ fun b o hb nb => ?_
    · exact dp_fxN (noT_i hp4) fx_upd (vsD_flat vs) (dp_ex (ex_new hl3) (dp_ex e3 hv2))
    · exact sqt_fxN (noT_i hp4) fx_upd (SqT.of upd_same)
    · rw [upd_ne nb]
      exact ex_new hl3 _ _ (e3 _ _ (fx2 b o nb hb))

end Z
namespace Z
open PySem PySem.Spec PyProof.Rows L2
local macro_rules | `(tactic| walk_at "look") => `(tactic| first | assumption | exact upd_same | exact SqL.of (by assumption) | exact SqT.of (by assumption) | exact SqL.of upd_same | exact SqT.of upd_same)
local macro_rules | `(tactic| walk_at "at") => `(tactic| first | exact at0 | exact at1 | exact at2 | exact at3 | exact ix0 | exact ix1 | assumption | exact atI_nat (by rfl))
local macro_rules | `(tactic| walk_at "sd") => `(tactic| ((try dsimp only); first | assumption | omega | (unfold CMul; omega) | (unfold CDiv; omega) | (unfold CPow; decide) | decide))
local macro_rules | `(tactic| walk_at "st") => `(tactic| first
  | (refine ⟨_, rfl, ?_⟩)
  | (refine ⟨_, _, rfl, rfl, ?_⟩)
  | (refine ⟨rfl, ?_⟩)
  | (refine .inl ⟨_, rfl, ?_⟩)
  | (refine ⟨_, _, _, _, rfl, rfl, (by walk_at "look"), (by walk_at "at"), ?_⟩)
  | (refine ⟨_, _, rfl, .inl (by walk_at "look"), ?_⟩)
  | (refine And.intro (by walk_at "sd") ?_)
  | fail "no step")
local macro_rules | `(tactic| walk_at "go") => `(tactic| repeat' (walk_at "st"))
local macro_rules | `(tactic| walk_at "ans") => `(tactic| (intro Q q; (repeat' (walk_at "st")); exact q))

theorem init_2 {K : PySem.W.Frag} {E : XK} {D : Ends} {p dx : Addr} {s3 s4 : Option V} {tv : V} {vs : List Ve} {left : Int} {H : Hp} (T : RhC K) (hp : H p = some (.ins (He.ga K "Rhyme") dx [])) (hv : Dp K H tv (vsD vs)) (ok : RhOk vs left)
    (k : ∀ (σ' : L2.St) (H' : Hp), RhAt K H' p vs left → (∀ b o, H b = some o → b ≠ p → H' b = some o) → D.nx σ' H') : t_Rhymeu_initu_2 K E D [some (.ref p), some tv, some (.int left), s3, s4, none, none] H := by
  unfold t_Rhymeu_initu_2
  refine if_go false (fun Q q => ?_) (fun z => nomatch z) (fun _ => ?_)
  · refine ⟨_, rfl, ?_⟩
    unfold sp_is_between
    refine ⟨_, .int left, 1, 3, rfl, .int left, true, ?_, q⟩
    show V.bl (decide (1 ≤ left) && decide (left ≤ 3)) = _
    rw [decide_eq_true ok.lf.1, decide_eq_true ok.lf.2]
    rfl
  · exact init_3 T hp hv ok.l4 k
theorem init_1 {K : PySem.W.Frag} {E : XK} {D : Ends} {p dx : Addr} {s3 s4 : Option V} {tv : V} {vs : List Ve} {left : Int} {H : Hp} (T : RhC K) (hp : H p = some (.ins (He.ga K "Rhyme") dx [])) (hv : Dp K H tv (vsD vs)) (ok : RhOk vs left)
    (k : ∀ (σ' : L2.St) (H' : Hp), RhAt K H' p vs left → (∀ b o, H b = some o → b ≠ p → H' b = some o) → D.nx σ' H') : t_Rhymeu_initu_1 K E D [some (.ref p), some tv, some (.int left), s3, s4, none, none] H := by
  unfold t_Rhymeu_initu_1
  obtain ⟨a, xs, rfl, hs, hall⟩ := dp_tup (id hv)
  refine ⟨_, rfl, a, xs, rfl, hs, for_it walk_enumT (fun i σ H' => Ex H H' ∧ ∃ s3 s4, σ = [some (.ref p), some (.ref a), some (.int left), s3, s4, none, none]) ⟨ex_refl H, s3, s4, rfl⟩ (fun i σ H' _ h => sqt_ex h.1 hs) ?_ ?_⟩
  · rintro i x σ H1 H2 hi ⟨e, u3, u4, rfl⟩ ⟨t, y1, y2, rfl, ht, rfl, h1, h2⟩
    cases h1
    have e2 : Ex H (upd H1 t (.tup [.int (i : Nat), y2])) := ex_trans e (ex_new ht)
    obtain ⟨d, hd1, hd2⟩ := dpa_get' hall h2
    refine ⟨t, _, rfl, SqT.of upd_same, rfl, _, _, rfl, _, _, rfl, rfl, ?_⟩
    unfold t_Rhymeu_initu_1a_0
    rw [List.getElem?_map] at hd1
    cases q : vs[i]? with
    | none =>
      rw [q] at hd1
      cases hd1
    | some v =>
      rw [q] at hd1
      have hm : v ∈ vs := List.mem_of_getElem? q
      have ed : vD v = d := Option.some.inj hd1
      subst ed
      refine if_goH false (fun Q q => ?_) (fun _ _ z => nomatch z) (fun H' e' _ => ?_)
      · refine ⟨_, rfl, ?_⟩
        unfold sp_is_verse
        refine ⟨y2, _, rfl, dp_ex e2 hd2, fun H' e' => ⟨true, ?_, q H' e'⟩⟩
        rw [isVerse_vD (ok.cnt v hm)]
      · exact ⟨ex_trans e2 e', _, _, rfl⟩
  · rintro σ H1 ⟨e, u3, u4, rfl⟩
    refine init_2 T (e _ _ hp) (dp_ex e hv) ok fun σ' H' r f => k σ' H' r fun b o hb nb => f b o (e b o hb) nb
theorem pure_Rhymeu_initu {K : PySem.W.Frag} (T : RhC K) (ws : List V) (H : Hp) (Q : VK) (E : XK) (h : sp_Rhymeu_initu K ws H Q E) :
    t_Rhymeu_initu_0 K E { nx := fun _ H' => Q .non H', rt := Q } (start ["self", "verses", "left", "index", "verse", "way", "count"] ws) H := by
  unfold sp_Rhymeu_initu at h
  obtain ⟨p, dx, v, vs, left, rfl, hp, hv, ok, k⟩ := h
  show t_Rhymeu_initu_0 K E _ [some (.ref p), some v, some (.int left), none, none, none, none] H
  obtain ⟨a, xs, rfl, hs, hall⟩ := dp_tup (id hv)
  have hl : xs.length = vs.length := by
    have := dpa_len hall
    rw [List.length_map] at this
    exact this
  unfold t_Rhymeu_initu_0
  refine if_go false (fun Q q => or_go false false (fun Q q => ⟨_, rfl, isi_go (Q := fun x H' => ∃ c, x = .bl c ∧ Q (!c) H') hv (show kitB "tuple" "tuple" = some true by decide +kernel) ⟨true, rfl, q⟩⟩) (fun _ Q q => ?_) q) (fun z => nomatch z) (fun _ => ?_)
  · refine ⟨_, rfl, a, xs, rfl, .inr hs, 1, _, rfl, rfl, _, rfl, ?_⟩
    have h1 := ok.l1
    have h4 := ok.l4
    refine iteT' (decide_eq_true (by omega)) ⟨_, _, rfl, rfl, _, rfl, ?_⟩
    rw [decide_eq_true (show (xs.length : Int) ≤ 4 by omega)]
    exact q
  · exact init_1 T hp hv ok fun σ' H' r f => k H' r f

/-- a rhyme of data (verses, left) -/
def tD (vs : List Ve) (left : Int) : PyData := .tuple [vsD vs, .int left]
theorem tD_flat (vs : List Ve) (left : Int) : flatD (tD vs left) = true := by
  show (flatD (vsD vs) && true) = true
  rw [vsD_flat]
  rfl
/-- (verses, left) taken apart -/
theorem tD_at {K : PySem.W.Frag} {H : Hp} {x : V} {vs : List Ve} {left : Int} (h : Dp K H x (tD vs left)) : ∃ a v, x = .ref a ∧ SqT K H a [v, .int left] ∧ Dp K H v (vsD vs) := by
  obtain ⟨a, xs, rfl, hs, hall⟩ := dp_tup h
  cases hall with
  | cons e0 r =>
    cases r with
    | cons e1 r =>
      cases r
      rw [dp_int e1] at hs
      exact ⟨a, _, rfl, hs, e0⟩
@[irreducible] def sp_law_made (K : PySem.W.Frag) : Sp := fun ws H Q _ => ∃ (x : V) (vs : List Ve) (left : Int), ws = [x] ∧ Dp K H x (tD vs left) ∧ RhOk vs left ∧
  ∀ (p : Addr) (H' : Hp), H p = none → Ex H H' → RhAt K H' p vs left → Q (.ref p) H'
def t_law_made_0 (K : PySem.W.Frag) (E : XK) : TS := (tRet (tMake (He.ga K "Rhyme") (sp_Rhymeu_initu K) [] E0 (tCons (tOp (rIxT K) (tVar 0) (tC (.int 0))) (tCons (tOp (rIxT K) (tVar 0) (tC (.int 1))) tNil))))

theorem pure_law_made {K : PySem.W.Frag} (ws : List V) (H : Hp) (Q : VK) (E : XK) (h : sp_law_made K ws H Q E) : t_law_made_0 K E { nx := fun _ H' => Q .non H', rt := Q } (start ["_law_t"] ws) H := by
  unfold sp_law_made at h
  obtain ⟨x, vs, left, rfl, hx, ok, k⟩ := h
  show t_law_made_0 K E _ [some x] H
  obtain ⟨a, v, rfl, hs, hv⟩ := tD_at hx
  refine ⟨_, rfl, a, _, 0, _, rfl, rfl, hs, at0, _, rfl, a, _, 1, _, rfl, rfl, hs, at1, fun p dp np nd ne => ?_⟩
  have e0 : Ex H (upd (upd H dp (.own p)) p (.ins (He.ga K "Rhyme") dp [])) := fun b o e => by
    rw [upd_ne (ne_of_none e np), upd_ne (ne_of_none e nd)]
    exact e
  unfold sp_Rhymeu_initu
  refine ⟨p, dp, v, vs, left, rfl, upd_same, dp_ex e0 hv, ok, fun H' r f => ⟨rfl, k p H' np (fun b o e => f b o (e0 b o e) (ne_of_none e np)) r⟩⟩

end Z
namespace Z
open PySem PySem.Spec PyProof.Rows L2
section
variable {X : Cx} {n j : Nat} {C : Addr} {sp : Sp} {E : XK}
/-- a == b, both instances of the class at C, by its own __eq__ -/
def rEqI (C : Addr) (sp : Sp) (E : XK) : R2 := fun x y H Q => ∃ a b dx dy fs gs, x = .ref a ∧ y = .ref b ∧ H a = some (.ins C dx fs) ∧ H b = some (.ins C dy gs) ∧ sp [.ref a, .ref b] H Q E
theorem op_eqI (c : Cm X.prog X.w X.K X.mg X.base n C "__eq__" sp) (hr : Room j X.A) (hk : n ≤ j) (hx : Passes (L2.CX X.prog X.w) X E) : OpR X (compareOp .Eq) (rEqI C sp E) := by
  obtain ⟨f, fd, ps, hc, hm, F, hb⟩ := c.ex
  intro pins s σ H x y v u Q I rx ry ⟨a, b, dx, dy, fs, gs, ex, ey, ha, hb2, q⟩
  subst ex ey
  cases rx
  cases ry
  obtain ⟨mA, J, _⟩ := ins_get I.hok ha
  obtain ⟨mB, J', _⟩ := ins_get I.hok hb2
  obtain ⟨od, J, _⟩ := J.look
  obtain ⟨od', J', _⟩ := J'.look
  obtain ⟨m, hF⟩ := I.fr
  refine PySem.W.cmp_K (op := .Eq) (tb := .ref C) hr.units0 hF I.ok.mod.kin J J'.type (by simp [PySem.W.notFirst]) hm.1 hm.2 ?_
  have rv : Vals [V.ref a, V.ref b] [Value.ref a, Value.ref b] := .cons rfl (.cons rfl .nil)
  refine wpAny_mono (run_fn (dvs := []) F (hr.mono hk) hb .nil hx I rv (by rw [List.append_nil]; exact q)) (fun v s1 hv => ?_) fun _ _ z => z
  obtain ⟨z, H1, I1, rz, qz⟩ := id hv
  cases z with
  | non => cases rz; exact hv
  | bl _ => cases rz; exact hv
  | int _ => obtain ⟨t, rfl⟩ := rz; exact hv
  | str _ => obtain ⟨t, rfl⟩ := rz; exact hv
  | byt _ => obtain ⟨t, rfl⟩ := rz; exact hv
  | flt _ => obtain ⟨t, rfl⟩ := rz; exact hv
  | ref _ => cases rz; exact hv
  | ty _ => cases rz; exact hv
end
end Z
/-! A def's, a method's, a maker's promise, from what the top leaves of it. -/
namespace Z
open PySem PySem.Spec PyProof.Rows L2
def inClass : Stmt → Nat → Stmt
  | .ClassDef _ _ _ body _ _ _ _ _ _ _, j => body.getD j (.Pass ⟨0, 0, 0, 0⟩)
  | s, _ => s
section
variable {P : Program} {w : World} {K : PySem.W.Frag} {mg : Str → Option Value} {base : Heap} {N : List Str} {qual : Str} {f C : Addr}
theorem ck_of {x : Str} {st : Stmt} {ps : List Str} {k : Nat} {sp : Sp} (M : Mk K C f) (F : ∃ fd, FnT K "__init__" qual st [] f fd) (hm : mg x = some (.ref C)) (S : FnScope N ps (defScope st)) (len : ∀ vs H Q E, sp vs H Q E → vs.length = ps.length)
    (hb : ∀ (kV doc pm : Value) (an : Option Addr) (cdv ct : Value) (us : List Value), us.length = ps.length → bindArgs (PySem.W.fnOf "__init__" qual (defArgs st) (defBody st) (defScope st) .none kV doc pm an cdv ct) ⟨us, []⟩ = pure (ps.zip us))
    (body : ∀ (cdv : Value) (A : Around) (outer : List Env) (s : Shared) (H : Hp) (vs : List V) (Q : VK) (E : XK), Room k (A.deeper (envOfC qual (defScope st) s.heap.objs.size f cdv)) → sp vs H Q E →
      ∃ t, PSs (cxOf (L2.CX P w) P w K mg base N qual (defScope st) f cdv A outer s H E) (defBody st) t ∧ t { nx := fun _ H' => Q .non H', rt := Q } (start N vs) H) : Ck P w K mg base (k + 1) x C sp := by
  obtain ⟨fd, F⟩ := F
  exact ⟨f, fd, ps, M, F.ok S len body, hm, F.bindsN hb⟩
/-- a def with defaults: n values are given, the defaults from the j-th on -/
theorem cld_of {x : Str} {st : Stmt} {ps : List Str} {k : Nat} {sp : Sp} {dvs : List V} (n j : Nat) (F : ∃ fd, FnT K x x st dvs f fd) (hm : mg x = some (.ref f)) (S : FnScope N ps (defScope st)) (len : ∀ vs H Q E, sp vs H Q E → vs.length = ps.length)
    (hd : dvs ≠ []) (hn : n + (dvs.length - j) = ps.length)
    (hb : ∀ (T : Addr) (kV doc pm : Value) (an : Option Addr) (cdv ct : Value) (us its : List Value), us.length = n → its.length = dvs.length →
      ∃ k, bindArgs (PySem.W.fnOf x x (defArgs st) (defBody st) (defScope st) (.ref T) kV doc pm an cdv ct) ⟨us, []⟩ = seqItems? (.ref T) >>= k ∧ k (some its.toArray) = pure (ps.zip (us ++ its.drop j)))
    (body : ∀ (cdv : Value) (A : Around) (outer : List Env) (s : Shared) (H : Hp) (vs : List V) (Q : VK) (E : XK), Room k (A.deeper (envOfC x (defScope st) s.heap.objs.size f cdv)) → sp vs H Q E →
      ∃ t, PSs (cxOf (L2.CX P w) P w K mg base N x (defScope st) f cdv A outer s H E) (defBody st) t ∧ t { nx := fun _ H' => Q .non H', rt := Q } (start N vs) H) : Cl P w K mg base (k + 1) x sp (dvs.drop j) := by
  obtain ⟨fd, F⟩ := F
  obtain ⟨ds, hv, b⟩ := F.binds1 n j hd hn hb
  exact ⟨f, fd, ps, ds, F.ok S len body, hm, F.kp, b, hv⟩
/-- a promise that nobody asks for -/
theorem cl_none {x : Str} {st : Stmt} {ps : List Str} {k : Nat} {sp : Sp} (F : ∃ fd, FnT K x x st [] f fd) (hm : mg x = some (.ref f)) (no : ∀ vs H Q E, ¬ sp vs H Q E)
    (hb : ∀ (kV doc pm : Value) (an : Option Addr) (cdv ct : Value) (us : List Value), us.length = ps.length → bindArgs (PySem.W.fnOf x x (defArgs st) (defBody st) (defScope st) .none kV doc pm an cdv ct) ⟨us, []⟩ = pure (ps.zip us)) : Cl P w K mg base k x sp [] := by
  obtain ⟨fd, F⟩ := F
  exact ⟨f, fd, ps, [], ⟨fun vs H Q E h => absurd h (no vs H Q E), fun A outer s H args us vs Q E _ _ _ _ h => absurd h (no vs H Q E)⟩, hm, F.kp, F.bindsN hb, .nil⟩
theorem cm_of {m : Str} {st : Stmt} {ps : List Str} {k : Nat} {sp : Sp} (c : Cls K C) (M : Meth K C m f) (F : ∃ fd, FnT K m qual st [] f fd) (S : FnScope N ps (defScope st)) (len : ∀ vs H Q E, sp vs H Q E → vs.length = ps.length)
    (hb : ∀ (kV doc pm : Value) (an : Option Addr) (cdv ct : Value) (us : List Value), us.length = ps.length → bindArgs (PySem.W.fnOf m qual (defArgs st) (defBody st) (defScope st) .none kV doc pm an cdv ct) ⟨us, []⟩ = pure (ps.zip us))
    (body : ∀ (cdv : Value) (A : Around) (outer : List Env) (s : Shared) (H : Hp) (vs : List V) (Q : VK) (E : XK), Room k (A.deeper (envOfC qual (defScope st) s.heap.objs.size f cdv)) → sp vs H Q E →
      ∃ t, PSs (cxOf (L2.CX P w) P w K mg base N qual (defScope st) f cdv A outer s H E) (defBody st) t ∧ t { nx := fun _ H' => Q .non H', rt := Q } (start N vs) H) : Cm P w K mg base (k + 1) C m sp := by
  obtain ⟨fd, F⟩ := F
  exact ⟨f, fd, ps, c, M, F.ok S len body, F.bindsN hb⟩
end
/-- what isinstance asks of an own class, by its Bools -/
def insB (K : PySem.W.Frag) (x : Str) : Bool :=
  (He.Fa.cls x).ok K && (He.eqO (PySem.W.findIn K (.ref (He.ga K x)) "__class__") (some (some (.builtin "object.__class__"))) && (He.eqO (PySem.W.specialIn K (.builtin "object.__class__") "__get__") (some (some (.builtin "getset_descriptor.__get__"))) &&
  (decide (PySem.W.takesIn K (.builtin "object.__class__") = some true) && (decide (PySem.W.mroIn K (He.ga K x) (.type "object") = some true) && decide (PySem.W.kitOne K (.ref (He.ga K x)) (.ref (He.ga K x)) = some true)))))
theorem insB_ok {K : PySem.W.Frag} {x : Str} (h : insB K x = true) : C8.InsC K (He.ga K x) := by
  unfold insB at h
  obtain ⟨h1, h⟩ := He.ba h
  obtain ⟨h2, h⟩ := He.ba h
  obtain ⟨h3, h⟩ := He.ba h
  obtain ⟨h4, h⟩ := He.ba h
  obtain ⟨h5, h6⟩ := He.ba h
  exact ⟨He.cls_ok h1, He.eqO_ok h2, He.eqO_ok h3, of_decide_eq_true h4, of_decide_eq_true h5, of_decide_eq_true h6⟩
/-- the walk's end, where what is let out leans on the world -/
theorem walk_ofW {ll : PySem.W.OpenLaw} {mm lv : Nat} {qv : Program} {ls : List Str} {XP : (Str → Option Value) → Heap → Prop} {YP : World → Heap → Prop} {dr : DefRec} {CW : World → CXT} {arg : Str}
    (hm : ll.most = some mm) (hz : mm ≤ sizeLine) (h0 : dr.params.defaults = []) (rm : Room lv callerA)
    (FF : ∀ (w : World) (mg : Str → Option Value) (fL : Addr) (hp : Heap), YP w hp → hp.Ns mainGlobals mg → mg dr.name = some (.ref fL) →
      ∃ (K : PySem.W.Frag) (fd : FuncData) (sp : Sp), K.In hp ∧ (∀ (s : Shared) (v : Value), BindsTo s fd ⟨[v], []⟩ [(arg, v)]) ∧
        (∀ (H : Hp) (a : Addr) (zs : List Int), zs.length ≤ mm → SqL K H a (zs.map V.int) → sp [.ref a] H (fun v _ => v = .bl true) fun _ _ _ => False) ∧
        ∀ bs : Heap, K.In bs → bs.Ns mainGlobals mg → FnOk ll.prog w K mg bs (CW w) lv fL fd [arg] sp)
    (no : ∀ (w : World) (H : Hp) (s : Shared) (e : Value) (s' : Shared), CW w [] H s (fun _ _ _ => False) e s' → False) :
    PySem.W.WalkO qv ls XP YP ll.row.toRowW dr [] (fun f vs => PySem.call f vs) := by
  refine Att.attach_call hm h0 fun w st su mg mb fL oo pm cd doc a vs zs GG YY ho hd hcd hmg hobj hints hlen hg => ?_
  obtain ⟨K, fd, sp, KX, hb, hsp, hF⟩ := FF w mg fL _ YY GG.T.g hmg
  refine law_call KX GG.T.g GG.T.b GG.T.builtins GG.T.nolimit hg hobj hints ?_ rm hF hb (fun H _ hS => hsp H a zs hlen hS) fun H e s' => no w H su e s'
  exact Nat.le_trans hlen hz
theorem noout {P : Program} {w : World} {H : Hp} {s s' : Shared} {e : Value} (z : L2.CX P w [] H s (fun _ _ _ => False) e s') : False := by
  obtain ⟨_, _, _, _, _, _, _, _, _, _, _, _, h⟩ := z
  exact h
end Z
/-! An own error made without arguments; raised; caught. -/
namespace Z
open PySem PySem.Spec PyProof.Rows L2
/-- what the top leaves of an own error without own __init__ -/
structure XcK (K : PySem.W.Frag) (mg : Str → Option Value) (x : Str) : Prop where
  m : PySem.W.excIn K (He.ga K x) He.veBase "ValueError.__new__" = true
  kp : PySem.W.keepIn K (.ref (He.ga K x)) = true
  sb : PySem.W.subIn K (.ref (He.ga K x)) (.type "BaseException") = some true
  ty : PySem.W.typeIn K (.ref (He.ga K x)) = some (.type "type")
  g : mg x = some (.ref (He.ga K x))
section
variable {X : Cx}
theorem pmk_own0 {x : Str} {p pos : Pos} (T : XcK X.K X.mg x) (hg : Gl X x) (hdb : (x == ("__debug__" : Str)) = false := by decide) :
    PMk X (.Call (.Name x p) [] [] pos) (fun _ H Q => Q (.ref (He.ga X.K x)) none H) := by
  intro pins s σ H Q I h
  refine wpAny_Call_Name_kw (ld_glob I hg T.g ?_ hdb)
  refine PySem.W.callWith_K0 I.kIn T.kp ?_
  show wpAny _ _ (call (.ref (He.ga X.K x)) []) _ _ _
  obtain ⟨bm, N, nm, qn, bs, hdct, sn, sub, ab, col, dd, k0, k1, k2, k3, k5, mN, hC, hN, hni, T2⟩ := exc_obj I.kIn T.m
  refine wpAny_call_exc_subT F.excBase_ValueError T2 hC hN hni (fun h' e hm => ?_) (Nat.zero_le _)
  exact mk_of I hm (raises_own T.sb T.ty) h (I.hok.gone hm.new)
end
/-- raise X() -/
def tRaise0 (E : XK) (C : Addr) : TS := fun _ σ H => E (.ref C) none H
/-- try: .. except X: .. -/
def tTry (K : PySem.W.Frag) (tb : WX → TS) (E : XK) (l : List (Value × (Addr → Value → Option Addr → TS))) : TS := fun D σ H => tb (wMany K (fun cls d _ H' => E cls d H') D l) D σ H
/-- an error of its own is caught by the i-th clause -/
theorem many_0 {K : PySem.W.Frag} {Wo : WX} {D : Ends} {c : Value} {ts : Addr → Value → Option Addr → TS} {r : List (Value × (Addr → Value → Option Addr → TS))} {d : Option Addr} {σ : L2.St} {H : Hp} (e : PySem.W.exmOne K c c = some true) (k : ∀ a, H a = none → ts a c d D σ H) : wMany K Wo D ((c, ts) :: r) c d σ H :=
  ⟨true, e, fun _ => k, fun z => nomatch z⟩
theorem many_1 {K : PySem.W.Frag} {Wo : WX} {D : Ends} {c c' : Value} {ts : Addr → Value → Option Addr → TS} {r : List (Value × (Addr → Value → Option Addr → TS))} {d : Option Addr} {σ : L2.St} {H : Hp} (e : PySem.W.exmOne K c c' = some false) (k : wMany K Wo D r c d σ H) : wMany K Wo D ((c', ts) :: r) c d σ H :=
  ⟨false, e, fun z => (nomatch z), fun _ => k⟩
end Z
/-! Methods, makers and len of an own object, by what is known of the class; also where an exception is caught. -/
namespace Z
open PySem PySem.Spec PyProof.Rows L2
section
variable {X : Cx} {k j : Nat} {C : Addr} {x m : Str} {sp : Sp} {p pos apos : Pos} {e o : Expr} {es : List Expr} {ta : TE} {t : TA} {E : XK}
theorem pe_mt {pl : Sem Bool} (c : Cm X.prog X.w X.K X.mg X.base k C m sp) (hr : Room j X.A) (hk : k ≤ j) (hx : Passes (L2.CX X.prog X.w) X E) (ho : PE X o ta) (ha : PA X (e :: es) t)
    (hst : starEach (e :: es) X.env = (false, eval e X.env) :: starEach es X.env := by rfl) (hpl : (backTo pos (starEach es X.env)).any (·.1) = false := by rfl)
    (hform : eval (.Call (.Attribute o m apos) (e :: es) [] pos) X.env = (do
      let who ← eval o X.env
      standAt apos.atName
      let (fn, fst) ← holding [who] (getMethod who m pl)
      callWith pos fn fst (backTo pos (starEach (e :: es) X.env)) (backToKw pos (keywordEach [] X.env))) := by rfl) :
    PE X (.Call (.Attribute o m apos) (e :: es) [] pos) (tMeth C m sp [] E ta t) := by
  obtain ⟨f, fd, ps, cl, hm, F, b⟩ := c.ex
  exact pe_meth (pl := pl) ho cl hm F (hr.mono hk) b .nil hx ha hst hpl hform
theorem pe_mt0 {pl : Sem Bool} (c : Cm X.prog X.w X.K X.mg X.base k C m sp) (hr : Room j X.A) (hk : k ≤ j) (hx : Passes (L2.CX X.prog X.w) X E) (ho : PE X o ta)
    (hform : eval (.Call (.Attribute o m apos) [] [] pos) X.env = (do
      let who ← eval o X.env
      standAt apos.atName
      let (fn, fst) ← holding [who] (getMethod who m pl)
      callWith pos fn fst (backTo pos (starEach [] X.env)) (backToKw pos (keywordEach [] X.env))) := by rfl) :
    PE X (.Call (.Attribute o m apos) [] [] pos) (tMeth C m sp [] E ta tNil) := by
  obtain ⟨f, fd, ps, cl, hm, F, b⟩ := c.ex
  exact pe_meth0 (pl := pl) ho cl hm F (hr.mono hk) b .nil hx hform
/-- o.m(), what is raised being caught around it -/
def tMethSD (C : Addr) (m : Str) (sp : Sp) (W : L2.St → XK) (ta : TE) (t : TA) : TE := fun σ H Q => ta σ H fun x H1 => ∃ a dx fs, x = .ref a ∧ H1 a = some (.ins C dx fs) ∧ fs.lookup m = none ∧ t σ H1 fun vs H2 => sp (x :: vs) H2 Q (W σ)
theorem pe_mt0S {W : L2.St → XK} {pl : Sem Bool} (c : Cm X.prog X.w X.K X.mg X.base k C m sp) (hr : Room j X.A) (hk : k ≤ j) (hx : ∀ σ, PassesAt (L2.CX X.prog X.w) X σ (W σ)) (ho : PE X o ta)
    (hform : eval (.Call (.Attribute o m apos) [] [] pos) X.env = (do
      let who ← eval o X.env
      standAt apos.atName
      let (fn, fst) ← holding [who] (getMethod who m pl)
      callWith pos fn fst (backTo pos (starEach [] X.env)) (backToKw pos (keywordEach [] X.env))) := by rfl) :
    PE X (.Call (.Attribute o m apos) [] [] pos) (tMethSD C m sp W ta tNil) := by
  obtain ⟨f, fd, ps, cl, hm, F, b⟩ := c.ex
  refine ⟨fun pins s σ H Q I h => ?_⟩
  refine PySem.W.methodCall_KW (pl := pl) (thn (ho.run pins s σ H _ I h) fun u s1 ⟨v, H1, I1, rv, a, dx, fs, ev, ea, l, q⟩ => ?_) hform
  subst ev
  obtain rfl : u = Value.ref a := rv
  refine getmeth_ok I1 ea cl hm l ?_
  refine PySem.W.callWith_K0 (first := [.ref a]) I1.kIn hm.kp ?_
  refine run_fnSD (dvs := []) (us := [.ref a]) (vs := [.ref a]) F (hr.mono hk) b .nil (hx σ) I1 (.cons rfl .nil) ?_
  exact q
/-- C(..), what is raised being caught around it -/
def tMakeSD (C : Addr) (sp : Sp) (W : L2.St → XK) (t : TA) : TE := fun σ H Q => t σ H fun vs H1 => ∀ p dp, H1 p = none → H1 dp = none → dp ≠ p →
  sp (.ref p :: vs) (upd (upd H1 dp (.own p)) p (.ins C dp [])) (fun v H2 => v = .non ∧ Q (.ref p) H2) (W σ)
theorem pe_mkcS {W : L2.St → XK} (c : Ck X.prog X.w X.K X.mg X.base k x C sp) (hr : Room j X.A) (hk : k + 1 ≤ j) (hg : Gl X x)
    (hx : ∀ (σ : L2.St) (pins : List (Addr × Obj)) (H Hm : Hp) (s : Shared) (er : Value) (s' : Shared), Inv X pins σ Hm s → L2.CX X.prog X.w X.stack Hm s (W σ) er s' → X.xe er s') (ha : PA X (e :: es) t)
    (hdb : (x == ("__debug__" : Str)) = false := by decide) (he : starEach (e :: es) X.env = (false, eval e X.env) :: starEach es X.env := by rfl) (hpl : (backTo pos (starEach es X.env)).any (·.1) = false := by rfl) :
    PE X (.Call (.Name x p) (e :: es) [] pos) (tMakeSD C sp W t) := by
  obtain ⟨f, fd, ps, M, F, hm, b⟩ := c.ex
  have hr2 : Room (k + 1) X.A := hr.mono hk
  refine ⟨fun pins s σ H Q I h => ?_⟩
  refine wpAny_Call_Name_kw (ld_glob I hg hm ?_ hdb)
  refine PySem.W.callWith_K (h₀ := X.base) I.ok.mod.kin M.kp (thn (ha.run pos pins s σ H _ I h) fun us s1 ⟨vs, H1, I1, r, q⟩ => ⟨I1.kIn, ?_⟩) he hpl
  have hq := q (s1.heap.objs.size + 1) s1.heap.objs.size (I1.hok.fresh (Nat.le_succ _)) (I1.hok.fresh (Nat.le_refl _)) (Nat.ne_of_lt (Nat.lt_succ_self _))
  have I2 := Inv.made (C := C) I1
  have r2 : Vals (V.ref (s1.heap.objs.size + 1) :: vs) (Value.ref (s1.heap.objs.size + 1) :: us) := .cons rfl r
  have hl : (Value.ref (s1.heap.objs.size + 1) :: us ++ []).length = ps.length := by
    have z := r2.length
    rw [F.len _ _ _ _ hq] at z
    rw [List.append_nil]
    exact z.symm
  have bb := b _ (Value.ref (s1.heap.objs.size + 1) :: us) I2.kIn hl
  rw [List.append_nil] at bb
  refine wpAny_call (make_map (f := f) I1.kIn M.makes M.init (beq_iff_eq.mp M.fn) (codeAny_mono (F.run _ X.stack _ _ ⟨Value.ref (s1.heap.objs.size + 1) :: us, []⟩ (Value.ref (s1.heap.objs.size + 1) :: us) _ _ (W σ) (hr2.make C us [])
    (I2.env0.make C us []) bb r2 hq) fun res s' hres => ?_))
  cases res with
  | error er => exact hx σ pins H _ _ er s' I2 hres
  | ok fl =>
    cases fl with
    | ret u =>
      obtain ⟨v, H', I3, rv, ev, q3⟩ := I2.after hres
      subst ev
      exact ⟨rv, ⟨V.ref (s1.heap.objs.size + 1), H', I3, rfl, q3⟩⟩
    | next => exact False.elim hres
    | brk => exact False.elim hres
    | cont => exact False.elim hres
theorem passMk {W : WX} (tk : Takes X W) : ∀ (σ : L2.St) (pins : List (Addr × Obj)) (H Hm : Hp) (s : Shared) (er : Value) (s' : Shared), Inv X pins σ Hm s → L2.CX X.prog X.w X.stack Hm s (WE W σ) er s' → X.xe er s' :=
  fun σ pins H Hm s er s' I cx => passAt tk σ pins Hm s er s' I cx
/-- len(o), o an instance whose class says __len__ -/
def rLenI (C : Addr) (sp : Sp) (E : XK) : RL := fun xs H Q => ∃ a dx fs, xs = [.ref a] ∧ H a = some (.ins C dx fs) ∧ sp [.ref a] H (fun v H' => ∃ n : Int, v = .int n ∧ 0 ≤ n ∧ n < 2 ^ 63 ∧ Q (.int n) H') E
theorem call_lenI (c : Cm X.prog X.w X.K X.mg X.base k C "__len__" sp) (hr : Room j X.A) (hk : k + 1 ≤ j) (hx : Passes (L2.CX X.prog X.w) X E) : CallR X (.builtin "len") (rLenI C sp E) := by
  obtain ⟨f, fd, ps, cl, hm, F, b⟩ := c.ex
  intro pins s σ H xs us Q I r ⟨a, dx, fs, ex, ea, q⟩
  subst ex
  obtain rfl := Vals.ref1 r
  obtain ⟨mA, J, _⟩ := ins_get I.hok ea
  obtain ⟨od, J, _⟩ := J.look
  obtain ⟨m, hF⟩ := I.fr
  refine PySem.W.len_K hF I.ok.mod.kin J hm.1 hm.2 ?_
  have hl : ([Value.ref a] ++ []).length = ps.length := by
    rw [← F.len _ _ _ _ q]
    rfl
  have bb := b s [Value.ref a] I.kIn hl
  rw [List.append_nil] at bb
  have hr2 : Room (k + 1) X.A := hr.mono hk
  refine wpAny_call (codeAny_mono (F.run X.A.in1 X.stack s H ⟨[.ref a], []⟩ [.ref a] [.ref a] _ E hr2.in1 I.env0.in1 bb (.cons rfl .nil) q) fun res s' hq => ?_)
  cases res with
  | error er => exact hx pins σ H s er s' I hq
  | ok fl =>
    cases fl with
    | ret u =>
      obtain ⟨v, H', I3, rv, n, ev, n0, n1, q3⟩ := I.after hq
      subst ev
      obtain ⟨tk, rfl⟩ := rv
      exact ⟨⟨n0, n1⟩, .int n, H', I3.tok _, ⟨_, rfl⟩, q3⟩
    | next => exact False.elim hq
    | brk => exact False.elim hq
    | cont => exact False.elim hq
end
end Z
/-! A tuple times an int from 1 on. -/
namespace Z
open PySem PySem.Spec PyProof.Rows L2
theorem tup_once (l : Addr) (vals : Array Value) (m : Nat) (od : Option Addr) (so : Array (Option Value)) (tk : Tok) :
    Meets (Builtin.«tuple.__mul__» ⟨[.ref l, .int 1 tk], []⟩) (fun _ R s => s.heap.get? l = some { cls := .type "tuple", dict := od, data := .seq vals m, slots := so } ∧ R (.ok (.ret (Value.ref l))) s) :=
  .of_wp fun prog w A R s hh => by
    obtain ⟨hp, gg, dd, tt, os⟩ := s
    obtain ⟨hl, hR⟩ := hh
    have fi := AutoSeq1.idx_int
    have c1 : (vals.isEmpty || (1 : Int) == 1) = true := by rw [Bool.or_eq_true]; exact .inr rfl
    wp_walk using wpAny_loadPart' hl
    repeat (first
      | (refine wpAny_ite_true (by exact c1) ?_; wp_walk using wpAny_loadPart' hl)
      | (refine wpAny_ite_false (by decide) ?_; wp_walk using wpAny_loadPart' hl))
    all_goals exact ⟨_, rfl, hR⟩
def rRepA (K : PySem.W.Frag) : R2 := fun x y H Q => ∃ l k xs, x = .ref l ∧ y = .int k ∧ SqT K H l xs ∧ xs ≠ [] ∧ 1 ≤ k ∧ k ≤ 1000 ∧ xs.length ≤ 1000 ∧ (k = 1 → Q (.ref l) H) ∧ (2 ≤ k → ∀ p, H p = none → Q (.ref p) (upd H p (.tup (List.replicate k.toNat xs).flatten)))
theorem op_repA {X : Cx} : OpR X (binaryOp .Mult) (rRepA X.K) := by
  intro pins s σ H x y v u Q I rx ry hh
  obtain ⟨l, k, xs, ex, ey, hT, hne, h1, h2, hz, q1, q2⟩ := hh
  by_cases c : k = 1
  · subst ex ey c
    cases rx
    obtain ⟨tk, rfl⟩ := ry
    obtain ⟨its, rv, ⟨⟨cls, od, dat, so⟩, ho, hc, m, hd⟩, hs⟩ := I.tuple hT
    simp only at hc hd
    subst hc hd
    refine wpAny_binaryOp_repeat_ref (T := "tuple") (U := "int") (by decide) ⟨_, ho, rfl⟩ (fun s' => typeIs_int s' 1 tk) noFill_tuple_mul F.fills_int_mul F.slot_int_rmul repeat_tuple F.slot_int_index.lookup
      (call_meets F.slot_int_rmul (typeIs_int s 1 tk) F.entry_int_rmul (F.args_int_rmul_2 _ _) (int_rmul_tuple 1 tk l its.toArray m od so) ?_)
    refine ⟨ho, rfl, ⟨_, ho, rfl⟩, call_meets F.slot_tuple_mul ⟨_, ho, rfl⟩ F.entry_tuple_mul (F.args_tuple_mul_2 _ _) (tup_once l its.toArray m od so tk) ⟨ho, ?_⟩⟩
    exact ⟨.ref l, H, I, rfl, q1 rfl⟩
  · exact op_repT pins s σ H x y v u Q I rx ry ⟨l, k, xs, ex, ey, hT, hne, by omega, h2, hz, q2 (by omega)⟩
end Z
/-! range(a, b) of any ints, great ones too. -/
namespace Z
open PySem PySem.Spec PyProof.Rows L2
theorem turn_long {P : Program} {w : World} {K : PySem.W.Frag} {tg : Expr} (it : Addr) (lo : Int) (n : Nat) : Turn P w K tg (Itr lo n) [it] it (fun i h => IsLongIter h it (lo + (i : Nat) * 1) ((n : Int) - (i : Nat)) 1) where
  mem := by simp
  obj := fun i h st b hb => by
    have e : b = it := by simpa using hb
    subst e
    exact ⟨_, st, fun v z => by
      have z' : Data.fields _ = Data.cell v := z
      cases z'⟩
  keep := fun i h h' st k => k it (by simp) _ st
  item := by
    intro X hP hw hK hc i pins s σ H E I hf st hg
    subst hP hw hK
    obtain ⟨f0, f1, f2, f3, f4, f5⟩ := hf it (by simp)
    have W := Walks.longrange (prog := X.prog) (w := X.w) (I.ok.hd hc) it lo 1 n
    refine W.item i s _ _ hg st fun v h' tk hv st' kk => ?_
    obtain ⟨t, rfl⟩ := hv
    have I1 : Inv X pins σ H { s with heap := h', toks := tk } := I.turned (fun b o hb e => kk b o (by simpa using hb) e) f0 f1 f3 f4 f5
    refine ⟨_, rfl, go_of (s := { s with heap := h', toks := tk }) (n := "longrange_iterator") st' rfl rfl (by decide) ⟨.int (lo + i), H, I1, ⟨t, ?_⟩, ⟨rfl, rfl⟩, st', fun b hb => (hf b hb).1⟩⟩
    rw [Int.mul_one]
  done := by
    intro X hP hw hK hc i pins s σ H E I hf st hg
    subst hP hw hK
    obtain ⟨f0, f1, f2, f3, f4, f5⟩ := hf it (by simp)
    exact wpAny_pyNext_long_end (I.ok.hd hc) st (by have : n ≤ i := hg; omega) fun h' eb => ⟨rfl, I.turned (t' := s.toks) (fun b o hb e => eb b o hb e) f0 f1 f3 f4 f5⟩
  self := fun _ _ _ _ _ st h => wpAny_pyIter_longiter st h
section
variable {X : Cx} {tg : Expr}
theorem range_itG {pins : List (Addr × Obj)} {σ : L2.St} {H : Hp} {s : Shared} {R : It → Hp → Prop} {E : Value → Shared → Prop} {lo hi : Int} {t u v : Tok} {tk : Nat} (I : Inv X pins σ H s)
    (q : R (Itr lo (hi - lo).toNat) H) : wpAny (model X.prog X.w) X.A (pyIter (.ref s.heap.objs.size)) (PIE X pins σ tg R) E { s with heap := s.heap.push { cls := .type "range", data := .fields #[.int lo t, .int hi u, .int 1 v] }, toks := tk } := by
  have I1 : Inv X pins σ H { s with heap := s.heap.push { cls := .type "range", data := .fields #[.int lo t, .int hi u, .int 1 v] }, toks := tk } := I.kept fun b o e => Heap.get?_push_of_some _ e
  have e1 : lo + ((0 : Nat) : Int) * 1 = lo := by simp
  have e2 : (((hi - lo).toNat : Nat) : Int) - ((0 : Nat) : Int) = Builtin.Range.rangeSize lo hi 1 := by rw [rangeSize_one]; split <;> omega
  by_cases hs : Builtin.Range.small lo hi 1 = true
  · refine wpAny_pyIter_range (IsRange.new ..) hs ?_
    refine ⟨(s.heap.push { cls := .type "range", data := .fields #[.int lo t, .int hi u, .int 1 v] }).objs.size, [(s.heap.push { cls := .type "range", data := .fields #[.int lo t, .int hi u, .int 1 v] }).objs.size], _, _, H, rfl,
      I1.kept (t' := tk) fun b o e => Heap.get?_push_of_some _ e, turn_range _ lo (hi - lo).toNat, ?_, fun b hb => ?_, q⟩
    · show IsRangeIter _ _ (lo + ((0 : Nat) : Int) * 1) ((((hi - lo).toNat : Nat) : Int) - ((0 : Nat) : Int)) 1
      rw [e1, e2]
      exact Heap.get?_push_size _ rfl
    · have e : b = (s.heap.push { cls := .type "range", data := .fields #[.int lo t, .int hi u, .int 1 v] }).objs.size := by simpa using hb
      subst e
      exact I1.fpOk (Nat.le_refl _) (I1.hok.fresh (Nat.le_refl _))
  · refine wpAny_pyIter_longrange (IsRange.new ..) (by simpa using hs) ?_
    refine ⟨(s.heap.push { cls := .type "range", data := .fields #[.int lo t, .int hi u, .int 1 v] }).objs.size, [(s.heap.push { cls := .type "range", data := .fields #[.int lo t, .int hi u, .int 1 v] }).objs.size], _, _, H, rfl,
      I1.kept (t' := tk) fun b o e => Heap.get?_push_of_some _ e, turn_long _ lo (hi - lo).toNat, ?_, fun b hb => ?_, q⟩
    · show IsLongIter _ _ (lo + ((0 : Nat) : Int) * 1) ((((hi - lo).toNat : Nat) : Int) - ((0 : Nat) : Int)) 1
      rw [e1, e2]
      exact Heap.get?_push_size _ rfl
    · have e : b = (s.heap.push { cls := .type "range", data := .fields #[.int lo t, .int hi u, .int 1 v] }).objs.size := by simpa using hb
      subst e
      exact I1.fpOk (Nat.le_refl _) (I1.hok.fresh (Nat.le_refl _))
/-- range(a, b), any ints -/
def iRng2G (ta : TA) : TI := fun σ H R => ta σ H fun vs H1 => ∃ i j : Int, vs = [.int i, .int j] ∧ R (Itr i (j - i).toNat) H1
theorem pi_range2G {a b : Expr} {ta : TA} {p pos : Pos} (hg : Gl X "range") (hm : X.mg "range" = none) (ha : PA X [a, b] ta) (hs : starEach [a, b] X.env = [(false, eval a X.env), (false, eval b X.env)] := by rfl) (hs2 : starEach [b] X.env = [(false, eval b X.env)] := by rfl) :
    PI X tg (.Call (.Name "range" p) [a, b] [] pos) (iRng2G ta) := by
  refine ⟨fun pins s σ H R I h => ?_⟩
  refine Call_ (ld_blt I hg hm boot_range (PyProof.Rows.callWith_type1 (thn (ha.run pos pins s σ H _ I h) fun us s1 ⟨vs, H1, I1, r1, q1⟩ => ?_) (by rw [hs, hs2]) (by rw [hs2]; rfl)))
  obtain ⟨i, j, e, q⟩ := q1
  subst e
  cases r1 with
  | cons r rr =>
    cases rr with
    | cons r' rr =>
      cases rr
      obtain ⟨t, rfl⟩ := r
      obtain ⟨t', rfl⟩ := r'
      exact call_range_2 (range_itG I1 q)
end
end Z
/-! list(range(a, b)) of any ints, great ones too. -/
namespace Z
open PySem PySem.Spec PyProof.Rows L2
section
variable {prog : Program} {w : World} {A : Around} {E : Value → Shared → Prop} {s : Shared}
theorem extend_long {R : Result → Shared → Prop} {r : Addr} {a b c : Int} {t u v : Tok} {n : Nat} (hh : A.handled = none) (hr : IsRange s.heap r a b c t u v) (hbig : Builtin.Range.small a b c = false)
    (hn : Builtin.Range.rangeSize a b c = n) (hlen : n ≤ 2 ^ 24) (S : Addr) (res : Value) (c₀ : Nat) (hS : s.heap.get? S = some { cls := .type "list", data := .seq #[] c₀ })
    (hR : ∀ h' tk acc' c', (∀ b o, b ≠ S → s.heap.get? b = some o → h'.get? b = some o) → h'.get? S = some { cls := .type "list", dict := none, data := .seq acc' c', slots := #[] } →
      ItemsOf (fun i v => ∃ t, v = .int (a + i * c) t) acc' n → R (.ok (.ret res)) { s with heap := h', toks := tk }) :
    wpAny (model prog w) A.in1 (Builtin.List.listExtendWith (.ref S) (.ref r) res)
      (fun fin s' => match fin with | .done f => R (.ok f) s' | .again c' => c'.quiet = true ∧ codeAny (model prog w) A c' R s') (fun e s' => R (.error e) s') s := by
  have hSr : S ≠ r := fun e => by rw [e, hr] at hS; simp at hS
  have hSI : S ≠ s.heap.objs.size := Nat.ne_of_lt (Heap.lt_size hS)
  have hSf : S ∉ [s.heap.objs.size] := fun hm => hSI (List.mem_singleton.mp hm)
  have W := (Walks.longrange (prog := prog) (w := w) (A := A.in1) hh s.heap.objs.size a c n).toS
  have key : ∀ (h : Heap) (c₁ tk : Nat), IsLongIter h s.heap.objs.size (a + ((0 : Nat) : Int) * c) ((n : Int) - ((0 : Nat) : Int)) c → (∀ b o, b ≠ S → s.heap.get? b = some o → h.get? b = some o) →
      h.get? S = some { cls := .type "list", data := .seq #[] c₁ } → codeAny (model prog w) A (.builtin "list.extend.loop" ⟨[.ref S, .ref s.heap.objs.size, res], []⟩) R { s with heap := h, toks := tk } := by
    intro h c₁ tk hit hk hS₁
    refine codeAny_extend_loopS W (by rw [sizeLine_eq]; omega) S hSf res n 0 _ #[] c₁ rfl (Nat.zero_le _) hit hS₁ (ItemsOf.nil _) fun s' acc' c' hm hS' hacc => ?_
    rw [Moved.eq_with hm]
    refine hR s'.heap s'.toks acc' c' (fun b o hb e => hm.heap b o (fun hmem => ?_) (hk b o hb e)) hS' hacc
    rcases List.mem_cons.mp hmem with e' | hmem
    · exact hb e'
    · exact absurd (Heap.lt_size e) (by rw [List.mem_singleton.mp hmem]; exact Nat.lt_irrefl _)
  unfold Builtin.List.listExtendWith
  refine wpAny_bind (wpAny_typeOf (T := "range") ⟨_, hr, rfl⟩ ?_)
  have h1 : Builtin.List.listSameRef (.ref S) (.ref r) = false := by simp [Builtin.List.listSameRef, hSr]
  have h2 : (Value.type "range" == Value.type "list") = false := by decide
  have h3 : (Value.type "range" == Value.type "tuple") = false := by decide
  simp only [h1, h2, h3, Bool.or_false, Bool.false_eq_true, if_false]
  refine wpAny_bind (wpAny_pyIter_longrange hr hbig ?_)
  refine wpAny_bind (wpAny_holding (wpAny_hint_range (n := n) (Heap.get?_push_of_some _ hr) hn hlen ?_))
  have hit₁ : IsLongIter (s.heap.push { cls := .type "longrange_iterator", data := .fields #[rawInt a, rawInt (Builtin.Range.rangeSize a b c), rawInt c] }) s.heap.objs.size (a + ((0 : Nat) : Int) * c) ((n : Int) - ((0 : Nat) : Int)) c := by
    show IsLongIter _ _ _ _ _
    rw [hn]
    simpa using Heap.get?_push_size _ rfl
  have hS₁ := Heap.get?_push_of_some { cls := .type "longrange_iterator", data := .fields #[rawInt a, rawInt (Builtin.Range.rangeSize a b c), rawInt c] } hS
  refine wpAny_ite_split (fun _ => ?_) (fun _ => wpAny_pure ⟨plainId_quiet F.plain_extend_loop _, key _ c₀ _ hit₁ (fun b o _ e => Heap.get?_push_of_some _ e) hS₁⟩)
  refine wpAny_bind (wpAny_rule ?_)
  refine wpAny_bind ?_
  show wpAny _ _ (updateSeq S (·.push .none) >>= fun _ => updateSeq S (·.pop)) _ _ _
  refine wpAny_bind (wpAny_updateSeq hS₁ rfl ?_)
  have hS₂ := Heap.get?_update_self (Obj.mapSeq (·.push Value.none)) hS₁ rfl
  refine wpAny_updateSeq (hz := by seq_fits) hS₂ rfl ?_
  have hS₃ := Heap.get?_update_self (Obj.mapSeq (·.pop)) hS₂ rfl
  refine wpAny_pure ⟨plainId_quiet F.plain_extend_loop _, key _ _ _ ?_ (fun b o hb e => ?_) hS₃⟩
  · exact (Heap.get?_update_other _ _ hSI).trans ((Heap.get?_update_other _ _ hSI).trans hit₁)
  · exact (Heap.get?_update_other _ _ (Ne.symm hb)).trans ((Heap.get?_update_other _ _ (Ne.symm hb)).trans (Heap.get?_push_of_some _ e))
theorem list_long {Q : Value → Shared → Prop} {r : Addr} {a b c : Int} {t u v : Tok} {n : Nat} (hh : A.handled = none) (hr : IsRange s.heap r a b c t u v) (hbig : Builtin.Range.small a b c = false)
    (hn : Builtin.Range.rangeSize a b c = n) (hlen : n ≤ 2 ^ 24)
    (hQ : ∀ h' tk acc' c', (∀ b o, s.heap.get? b = some o → h'.get? b = some o) →
      h'.get? s.heap.objs.size = some { cls := .type "list", dict := none, data := .seq acc' c', slots := #[] } → ItemsOf (fun i v => ∃ t, v = .int (a + i * c) t) acc' n → Q (.ref s.heap.objs.size) { s with heap := h', toks := tk }) :
    wpAny (model prog w) A (call (.type "list") [.ref r]) Q E s := by
  refine callType_codes (Q₁ := fun obj s₁ => obj = .ref s.heap.objs.size ∧ s₁ = { s with heap := s.heap.push { cls := .type "list", data := .seq #[] } }) F.called_list (F.typeCall_list_1 _) F.entry_list_init
    (code_list_new _ ⟨rfl, rfl⟩) fun obj s₁ h₁ => ?_
  obtain ⟨rfl, rfl⟩ := h₁
  have hS : (s.heap.push { cls := .type "list", data := .seq #[] }).get? s.heap.objs.size = some { cls := .type "list", data := .seq #[] } := Heap.get?_push_size _ rfl
  have hr1 : IsRange (s.heap.push { cls := .type "list", data := .seq #[] }) r a b c t u v := Heap.get?_push_of_some _ hr
  refine ⟨⟨_, hS, rfl⟩, F.args_list_init_2 _ _, ?_⟩
  have hSr : s.heap.objs.size ≠ r := fun e => Nat.ne_of_gt (Heap.lt_size hr) e
  show wpAny _ A.in1.in1 (do let old ← Builtin.List.listItems (.ref s.heap.objs.size); Builtin.List.listUpdate (.ref s.heap.objs.size) (fun _ => #[]); letGo old.toList.reverse; Builtin.List.listExtendWith (.ref s.heap.objs.size) (.ref r) .none) _ _ _
  refine wpAny_bind ?_
  unfold Builtin.List.listItems
  refine wpAny_bind (wpAny_seqItems hS rfl (wpAny_pure ?_))
  refine wpAny_bind (m := Builtin.List.listUpdate _ _) (wpAny_updateSeq hS rfl ?_)
  have hS₂ := Heap.get?_update_self (Obj.mapSeq (fun _ => (#[] : Array Value))) hS rfl
  have oth : ∀ b o, b ≠ s.heap.objs.size → (s.heap.push { cls := .type "list", data := .seq #[] }).get? b = some o → ((s.heap.push { cls := .type "list", data := .seq #[] }).update s.heap.objs.size (Obj.mapSeq (fun _ => (#[] : Array Value)))).get? b = some o :=
    fun b o hb e => (Heap.get?_update_other _ _ (Ne.symm hb)).trans e
  refine wpAny_bind (wpAny_letGo ?_)
  refine extend_long (A := A.in1) hh (oth r _ (Ne.symm hSr) hr1) hbig hn hlen s.heap.objs.size .none _ hS₂ fun h' tk acc' c' hk hS' hacc => ?_
  exact ⟨rfl, hQ h' tk acc' c' (fun b o e => hk b o (Nat.ne_of_lt (Heap.lt_size e)) (oth b o (Nat.ne_of_lt (Heap.lt_size e)) (Heap.get?_push_of_some _ e))) hS' hacc⟩
end
section
variable {X : Cx}
/-- list(range(..)), at most 1000 of them, any ints -/
def tLstRgG (te : L2.St → Hp → (Int → Int → Hp → Prop) → Prop) : TE := fun σ H Q => te σ H fun a b H1 => (b - a).toNat ≤ 1000 ∧ ∀ q, H1 q = none → Q (.ref q) (upd H1 q (.lst (rgV a b)))
theorem pe_listRgG {e : Expr} {te : L2.St → Hp → (Int → Int → Hp → Prop) → Prop} {p pos : Pos} (hc : X.calm = true) (hg : Gl X "list") (hm : X.mg "list" = none) (he : PRg X e te) (na : starEach [e] X.env = (false, eval e X.env) :: starEach [] X.env := by rfl) : PE X (.Call (.Name "list" p) [e] [] pos) (tLstRgG te) := by
  refine ⟨fun pins s σ H Q I h => ?_⟩
  refine Call_ (ld_blt I hg hm boot_list (PyProof.Rows.callWith_type1 (args_cons (thn (he pins s σ H _ I h) fun x s1 ⟨r, a, b, t, u, v, H1, ex, hr, I1, ok, q⟩ => args_nil ?_) na) na))
  subst ex
  have fin : ∀ h' tk acc c', (∀ b o, s1.heap.get? b = some o → h'.get? b = some o) →
      h'.get? s1.heap.objs.size = some { cls := .type "list", dict := none, data := .seq acc c', slots := #[] } → ItemsOf (fun i v => ∃ t, v = .int (a + i * 1) t) acc (b - a).toNat → EP X pins σ Q (.ref s1.heap.objs.size) { s1 with heap := h', toks := tk } := by
    intro h' tk acc c' hk e' hi
    refine ⟨.ref s1.heap.objs.size, upd H1 s1.heap.objs.size (.lst (rgV a b)), I1.laid hk (Nat.le_refl _) (show ObjOk X.prog X.w _ _ _ (.lst (rgV a b)) from ⟨?_, acc.toList, c', vals_rg hi, ?_⟩), rfl, q _ (I1.hok.fresh (Nat.le_refl _))⟩
    · rw [rgV_length, sizeLine_eq]; omega
    · rw [Array.toArray_toList]; exact e'
  by_cases hs : Builtin.Range.small a b 1 = true
  · exact call_list_range (n := (b - a).toNat) (I1.ok.hd hc) hr hs (rangeSize_nat a b) (by omega) fin
  · exact list_long (n := (b - a).toNat) (I1.ok.hd hc) hr (by simpa using hs) (rangeSize_nat a b) (by omega) fin
end
end Z
namespace Z
open PySem PySem.Spec PyProof.Rows L2
local macro_rules | `(tactic| walk_at "look") => `(tactic| first | assumption | exact upd_same | exact SqL.of (by assumption) | exact SqT.of (by assumption) | exact SqL.of upd_same | exact SqT.of upd_same)
local macro_rules | `(tactic| walk_at "at") => `(tactic| first | exact at0 | exact at1 | exact at2 | exact at3 | exact ix0 | exact ix1 | assumption | exact atI_nat (by rfl))
local macro_rules | `(tactic| walk_at "sd") => `(tactic| ((try dsimp only); first | assumption | omega | (unfold CMul; omega) | (unfold CDiv; omega) | (unfold CPow; decide) | decide))
local macro_rules | `(tactic| walk_at "st") => `(tactic| first
  | (refine ⟨_, rfl, ?_⟩)
  | (refine ⟨_, _, rfl, rfl, ?_⟩)
  | (refine ⟨rfl, ?_⟩)
  | (refine .inl ⟨_, rfl, ?_⟩)
  | (refine ⟨_, _, _, _, rfl, rfl, (by walk_at "look"), (by walk_at "at"), ?_⟩)
  | (refine ⟨_, _, rfl, .inl (by walk_at "look"), ?_⟩)
  | (refine And.intro (by walk_at "sd") ?_)
  | fail "no step")
local macro_rules | `(tactic| walk_at "go") => `(tactic| repeat' (walk_at "st"))
local macro_rules | `(tactic| walk_at "ans") => `(tactic| (intro Q q; (repeat' (walk_at "st")); exact q))

/-! ### == of rhymes -/
theorem eqvAll_vD : ∀ vs us : List Ve, PyData.eqvAll (vs.map vD) (us.map vD) = decide (vs = us)
  | [], [] => rfl
  | [], _ :: _ => rfl
  | _ :: _, [] => rfl
  | v :: vs, u :: us => by
    have ih := eqvAll_vD vs us
    show (PyData.eqv (vD v) (vD u) && PyData.eqvAll (vs.map vD) (us.map vD)) = _
    rw [ih]
    have e : PyData.eqv (vD v) (vD u) = decide (v = u) := by
      show ((wayS v.1 == wayS u.1) && ((v.2 == u.2) && true)) = _
      obtain ⟨a, b⟩ := v
      obtain ⟨c, d⟩ := u
      rw [Bool.and_true]
      have ib : ∀ x y : Int, (x == y) = decide (x = y) := fun x y => by
        by_cases h : x = y
        · rw [h, decide_eq_true rfl]
          exact beq_self_eq_true y
        · rw [decide_eq_false h]
          exact beq_false_of_ne h
      have wn : (("on" : Str) == "back") = false := by decide +kernel
      have nw : (("back" : Str) == "on") = false := by decide +kernel
      have ww : ∀ x : Str, (x == x) = true := fun x => beq_self_eq_true x
      rw [ib]
      cases a <;> cases c
      · show ((("back" : Str) == "back") && _) = _
        rw [ww]
        simp
      · show ((("back" : Str) == "on") && _) = _
        rw [nw]
        simp
      · show ((("on" : Str) == "back") && _) = _
        rw [wn]
        simp
      · show ((("on" : Str) == "on") && _) = _
        rw [ww]
        simp
    rw [e]
    by_cases h1 : v = u <;> by_cases h2 : vs = us <;> simp [h1, h2]
theorem eqv_vsD (vs us : List Ve) : PyData.eqv (vsD vs) (vsD us) = decide (vs = us) := eqvAll_vD vs us
theorem lay_vD : ∀ vs : List Ve, PyData.canLayAll0 (vs.map vD) = true ∧ PyData.depthAll (vs.map vD) ≤ 1
  | [] => ⟨rfl, Nat.zero_le _⟩
  | v :: vs => by
    obtain ⟨h1, h2⟩ := lay_vD vs
    constructor
    · show (PyData.canLay0 (vD v) && PyData.canLayAll0 (vs.map vD)) = true
      rw [h1, Bool.and_true]
      obtain ⟨a, b⟩ := v
      cases a
      · exact (by decide +kernel : PyData.canLayAll0 [.str "back", .int 0] = true)
      · exact (by decide +kernel : PyData.canLayAll0 [.str "on", .int 0] = true)
    · show max (PyData.depth (vD v)) (PyData.depthAll (vs.map vD)) ≤ 1
      have : PyData.depth (vD v) = 1 := rfl
      omega
theorem shaped_vsD (vs : List Ve) : SeqAt.shaped (vsD vs) = true := by
  obtain ⟨h1, h2⟩ := lay_vD vs
  show (PyData.canLayAll0 (vs.map vD) && decide (PyData.depthAll (vs.map vD) + 1 ≤ 64)) = true
  rw [h1, decide_eq_true (by omega)]
  rfl
@[irreducible] def sp_Rhymeu_equ (K : PySem.W.Frag) : Sp := fun ws H Q _ => ∃ (a b : Addr) (vs us : List Ve) (l m : Int), ws = [.ref a, .ref b] ∧ RhAt K H a vs l ∧ RhAt K H b us m ∧ Q (.bl (decide (vs = us) && decide (l = m))) H
def t_Rhymeu_equ_0 (K : PySem.W.Frag) (E : XK) : TS := (tRet (tAndV (tCB (rIsi K) (tCons (tVar 1) (tCons (tC (.ref (He.ga K "Rhyme"))) tNil))) (tAndV (tOp (rEqD K) (tFld K (tVar 0) "own_verses") (tFld K (tVar 1) "own_verses")) (tOp rEq (tFld K (tVar 0) "own_left") (tFld K (tVar 1) "own_left")))))

theorem pure_Rhymeu_equ {K : PySem.W.Frag} (T : RhC K) (TI : C8.InsC K (He.ga K "Rhyme")) (ws : List V) (H : Hp) (Q : VK) (E : XK) (h : sp_Rhymeu_equ K ws H Q E) :
    t_Rhymeu_equ_0 K E { nx := fun _ H' => Q .non H', rt := Q } (start ["self", "other"] ws) H := by
  unfold sp_Rhymeu_equ at h
  obtain ⟨a, b, vs, us, l, m, rfl, ⟨dx, tv, tr, h1, h2, h3⟩, ⟨dy, uv, ur, g1, g2, g3⟩, k⟩ := h
  show t_Rhymeu_equ_0 K E _ [some (.ref a), some (.ref b)] H
  refine andV_go true (decide (vs = us) && decide (l = m)) (fun Q q => ?_) (fun _ Q q => andV_go (decide (vs = us)) (decide (l = m)) (fun Q q => ?_) (fun _ Q q => ?_) q) k
  · exact ⟨_, rfl, .ref b, _, _, _, true, rfl, .own _, .base (TyOf.ins g1 TI.cl TI.ha TI.hn TI.htk TI.hm), TI.me, q⟩
  · refine ⟨_, rfl, a, _, dx, _, _, rfl, h1, T.cl, T.nv, rhF_v _ _ _, _, rfl, b, _, dy, _, _, rfl, g1, T.cl, T.nv, rhF_v _ _ _, _, _, h2, g2, shaped_vsD vs, shaped_vsD us, ?_⟩
    rw [eqv_vsD]
    exact q
  · refine ⟨_, rfl, a, _, dx, _, _, rfl, h1, T.cl, T.nl, rhF_l _ _ _, _, rfl, b, _, dy, _, _, rfl, g1, T.cl, T.nl, rhF_l _ _ _, rfl, ?_⟩
    rw [d_int]
    exact q
/-! ### the law's source -/
@[irreducible] def sp_law_random (K : PySem.W.Frag) : Sp := fun ws H Q _ => ∃ (a : Addr) (ns : List Int) (z : Int), ws = [.ref a, .int z] ∧ SqL K H a (ns.map V.int) ∧ ns.length ≤ 63 ∧ 0 ≤ z ∧ z < 2147483647 ∧
  ∀ (d : Addr) (H' : Hp), H d = none → Ex H H' → DSt H' d → Q (.ref d) H'
def t_law_random_1a_0 (K : PySem.W.Frag) (E : XK) : TS := (tAsg (tOp oMod (tCB cInt (tCons (tOp oAdd (tOp oMul (tVar 2) (tC (.int 31))) (tCB cAbs (tCons (tVar 3) tNil))) tNil)) (tC (.int 2147483647))) (gName 2))

def t_law_random_2 (K : PySem.W.Frag) (E : XK) : TS := (tRet (tOp rCat (tLst (tCons (tVar 2) (tCons (tC (.int 0)) tNil))) (tLc (iList K (tVar 0)) (gName 3) (tTest (tOp oGe (tVar 3) (tOp oPow (tC (.int 10)) (tC (.int 18))))) (tVar 3) [3])))

@[irreducible] def t_law_random_1 (K : PySem.W.Frag) (E : XK) : TS := tSeq (tFor (iList K (tVar 0)) (gName 3)
    (t_law_random_1a_0 K E)) (t_law_random_2 K E)

def t_law_random_0 (K : PySem.W.Frag) (E : XK) : TS := tSeq (tAsg (tVar 1) (gName 2)) (t_law_random_1 K E)

theorem random_2 {K : PySem.W.Frag} {E : XK} {D : Ends} {a : Addr} {ns : List Int} {z s : Int} {u : Option V} {H : Hp} (hS : SqL K H a (ns.map V.int)) (hn : ns.length ≤ 63) (h0 : 0 ≤ s) (h1 : s < 2147483647)
    (k : ∀ (d : Addr) (H' : Hp), H d = none → Ex H H' → DSt H' d → D.rt (.ref d) H') : t_law_random_2 K E D [some (.ref a), some (.int z), some (.int s), u] H := by
  refine ⟨_, rfl, (by show 2 ≤ sizeLine; decide), fun p hp => ?_⟩
  have e1 : Ex H (upd H p (.lst [.int s, .int 0])) := ex_new hp
  refine ⟨_, rfl, a, rfl, ⟨_, sq_ex e1 hS⟩, fun q hq => lc_pure walk_list (fun i => decide ((10 : Int) ^ 18 ≤ ns.getD i 0)) (fun i => .int (ns.getD i 0)) hq (by rw [List.length_map]; exact Nat.lt_of_le_of_lt hn (by decide)) (fun H3 e => sq_ex (ex_trans e1 e) hS) ?_ ?_⟩
  · rintro i x H3 H4 hi e ⟨rfl, hx⟩ Q Zf q1 q2
    rw [List.getElem?_map] at hx
    have hi2 : i < ns.length := by
      rw [List.length_map] at hi
      exact hi
    rw [List.getElem?_eq_getElem hi2] at hx
    have ex : V.int ns[i] = x := Option.some.inj hx
    subst ex
    have eg : ns.getD i 0 = ns[i] := by
      rw [List.getD_eq_getElem?_getD, List.getElem?_eq_getElem hi2]
      rfl
    rw [eg] at q1 q2
    refine ⟨rfl, ?_⟩
    refine ⟨_, rfl, 10, 18, rfl, rfl, ⟨by decide, by decide, by decide⟩, _, _, rfl, rfl, _, rfl, ?_⟩
    by_cases c : (10 : Int) ^ 18 ≤ ns[i]
    · refine iteT' (decide_eq_true c) ⟨_, rfl, q1 (decide_eq_true c) _ (ex_refl _)⟩
    · refine iteF' (decide_eq_false c) (q2 (decide_eq_false c) _ (ex_refl _))
  · intro H3 e hq3
    obtain ⟨r, hr, hr2, hr3⟩ : ∃ r : List Int, ((List.range (ns.map V.int).length).filter (fun i => decide ((10 : Int) ^ 18 ≤ ns.getD i 0))).map (fun i => V.int (ns.getD i 0)) = r.map V.int ∧ (∀ y ∈ r, 0 ≤ y) ∧ r.length ≤ 63 := by
      refine ⟨((List.range (ns.map V.int).length).filter (fun i => decide ((10 : Int) ^ 18 ≤ ns.getD i 0))).map (fun i => ns.getD i 0), ?_, ?_, ?_⟩
      · rw [List.map_map]
        rfl
      · intro y hy
        obtain ⟨i, hi, rfl⟩ := List.mem_map.mp hy
        have := of_decide_eq_true (List.mem_filter.mp hi).2
        omega
      · rw [List.length_map]
        refine Nat.le_trans (List.length_filter_le ..) ?_
        rw [List.length_range, List.length_map]
        exact hn
    rw [hr] at hq3
    refine ⟨p, q, _, _, rfl, rfl, e _ _ upd_same, hq3, ?_, fun d hd => ?_⟩
    · rw [List.length_map]
      refine Nat.le_trans (Nat.add_le_add_left hr3 _) (by show 2 + 63 ≤ sizeLine; decide)
    · refine k d _ (ex_free (ex_trans e1 e) hd) (ex_trans (ex_trans e1 e) (ex_new hd)) ⟨s, 0, r, upd_same, h0, h1, Int.le_refl 0, hr2, hr3⟩
theorem pure_law_random {K : PySem.W.Frag} (ws : List V) (H : Hp) (Q : VK) (E : XK) (h : sp_law_random K ws H Q E) :
    t_law_random_0 K E { nx := fun _ H' => Q .non H', rt := Q } (start ["_law_script", "_law_salt", "_law_seed", "_law_cell"] ws) H := by
  unfold sp_law_random at h
  obtain ⟨a, ns, z, rfl, hS, hn, z0, z1, k⟩ := h
  refine ⟨_, rfl, ?_⟩
  show t_law_random_1 K E _ [some (.ref a), some (.int z), some (.int z), none] H
  unfold t_law_random_1
  refine ⟨_, rfl, a, rfl, ⟨_, hS⟩, for_it walk_list (fun i σ H' => H' = H ∧ ∃ (s : Int) (u : Option V), σ = [some (.ref a), some (.int z), some (.int s), u] ∧ 0 ≤ s ∧ s < 2147483647) ⟨rfl, z, none, rfl, z0, z1⟩ (fun i σ H' _ h => by rw [h.1]; exact hS) ?_ ?_⟩
  · rintro i x σ H1 H2 hi ⟨rfl, s, u, rfl, h0, h1⟩ ⟨rfl, hx⟩
    rw [List.getElem?_map] at hx
    have hi2 : i < ns.length := by
      rw [List.length_map] at hi
      exact hi
    rw [List.getElem?_eq_getElem hi2] at hx
    have ex : V.int ns[i] = x := Option.some.inj hx
    subst ex
    refine ⟨_, rfl, s, 31, rfl, rfl, .inr ⟨by decide, by decide⟩, _, rfl, _, rfl, _, _, rfl, rfl, .inl ⟨_, rfl, ?_⟩⟩
    refine ⟨_, _, rfl, rfl, (by show (0 : Int) < 2147483647; decide), ?_⟩
    exact ⟨rfl, _, _, rfl, Int.emod_nonneg _ (by decide), Int.emod_lt_of_pos _ (by decide)⟩
  · rintro σ H1 ⟨rfl, s, u, rfl, h0, h1⟩
    exact random_2 (E := E) hS hn h0 h1 k

/-! ### a drawn rhyme -/
@[irreducible] def sp_law_drawn (K : PySem.W.Frag) : Sp := fun ws H Q _ => ∃ (d : Addr), ws = [.ref d] ∧ DSt H d ∧
  ∀ (x : V) (vs : List Ve) (left : Int) (H' : Hp), RhOk vs left → Dp K H' x (tD vs left) → DSt H' d → Fx d H H' → Q x H'
def t_law_drawn_1a_0 (K : PySem.W.Frag) (E : XK) : TS := (tDrop (tBM K "list" rAppend (tVar 1) (tCons (tTup (tCons (tCall (sp_law_pick K) [] E0 (tCons (tVar 0) (tCons (tLst (tCons (tC (.str "on")) (tCons (tC (.str "on")) (tCons (tC (.str "back")) tNil)))) tNil))) (tCons (tOp oAdd (tC (.int 1)) (tCall (sp_law_below K) [] E0 (tCons (tVar 0) (tCons (tC (.int 6)) tNil)))) tNil))) tNil)))

def t_law_drawn_2 (K : PySem.W.Frag) (E : XK) : TS := (tRet (tTup (tCons (tCB (cTup K) (tCons (tVar 1) tNil)) (tCons (tOp oAdd (tC (.int 1)) (tCall (sp_law_below K) [] E0 (tCons (tVar 0) (tCons (tC (.int 3)) tNil)))) tNil))))

@[irreducible] def t_law_drawn_1 (K : PySem.W.Frag) (E : XK) : TS := tSeq (tFor (iRng1 (tCons (tOp oAdd (tC (.int 1)) (tCall (sp_law_below K) [] E0 (tCons (tVar 0) (tCons (tC (.int 4)) tNil)))) tNil)) (gName 2)
    (t_law_drawn_1a_0 K E)) (t_law_drawn_2 K E)

def t_law_drawn_0 (K : PySem.W.Frag) (E : XK) : TS := tSeq (tAsg (tLst tNil) (gName 1)) (t_law_drawn_1 K E)

theorem dst_l {H : Hp} {d : Addr} (h : DSt H d) : ∃ zs, H d = some (.lst zs) := by
  obtain ⟨s, x, r, hd, _⟩ := h
  exact ⟨_, hd⟩
theorem dst_noT {H : Hp} {d : Addr} (h : DSt H d) : NoT (H d) := by
  obtain ⟨zs, hd⟩ := dst_l h
  exact noT_l hd
theorem dst_ex {H H' : Hp} {d : Addr} (e : Ex H H') (h : DSt H d) : DSt H' d := by
  obtain ⟨s, x, r, hd, hr⟩ := h
  exact ⟨s, x, r, e _ _ hd, hr⟩
/-- what stands of the drawn verses: the list at l -/
structure VsL (K : PySem.W.Frag) (H : Hp) (l : Addr) (vs : List Ve) : Prop where
  ex : ∃ xs, H l = some (.lst xs) ∧ DpAll K H xs (vs.map vD)
  cnt : ∀ v ∈ vs, 1 ≤ v.2 ∧ v.2 ≤ 6
theorem vsD_flats (vs : List Ve) : flatDs (vs.map vD) = true := vsD_flat vs
theorem drawn_turn {K : PySem.W.Frag} {E : XK} {D : Ends} {d l : Addr} {u : Option V} {vs : List Ve} {H : Hp} (hD : DSt H d) (nl : l ≠ d) (hv : VsL K H l vs) (hn : vs.length ≤ 10)
    (k : ∀ (v : Ve) (H' : Hp), VsL K H' l (vs ++ [v]) → DSt H' d → (∀ b o, b ≠ d → b ≠ l → H b = some o → H' b = some o) → D.nx [some (.ref d), some (.ref l), u] H') :
    t_law_drawn_1a_0 K E D [some (.ref d), some (.ref l), u] H := by
  obtain ⟨⟨xs, hl, hall⟩, hc⟩ := hv
  refine ⟨_, rfl, .inl ⟨rfl, _, SqL.of hl⟩, _, rfl, (by show 3 ≤ sizeLine; decide), fun p hp => ?_⟩
  have np : d ≠ p := by
    obtain ⟨zs, hd⟩ := dst_l hD
    exact ne_of_none hd hp
  have e1 := ex_new (o := .lst [.str "on", .str "on", .str "back"]) hp
  unfold sp_law_pick
  refine ⟨d, p, [.str "on", .str "on", .str "back"], rfl, dst_ex e1 hD, upd_same, np.symm, by simp, by decide, fun i w H2 hw hD2 f2 => ?_⟩
  obtain ⟨b, rfl⟩ : ∃ b, w = .str (wayS b) := by
    match i, hw with
    | 0, h => exact ⟨true, (Option.some.inj h).symm⟩
    | 1, h => exact ⟨true, (Option.some.inj h).symm⟩
    | 2, h => exact ⟨false, (Option.some.inj h).symm⟩
    | i + 3, h => simp at h
  refine ⟨_, rfl, ?_⟩
  unfold sp_law_below
  refine ⟨d, 6, rfl, hD2, by decide, by decide, fun r H3 r0 r6 hD3 f3 => ?_⟩
  refine ⟨1, r, rfl, rfl, (by show 2 ≤ sizeLine; decide), fun t ht => ?_⟩
  have F : Fx d H H3 := fx_trans (fx_ex e1) (fx_trans f2 f3)
  have hl3 : H3 l = some (.lst xs) := F l _ nl hl
  have e4 := ex_new (o := .tup [.str (wayS b), .int (1 + r)]) ht
  have hl4 := e4 _ _ hl3
  have hall4 : DpAll K (upd H3 t (.tup [.str (wayS b), .int (1 + r)])) xs (vs.map vD) := dpa_ex e4 (dpa_fxN (dst_noT hD) F (vsD_flats vs) hall)
  have ntl : t ≠ l := (ne_of_none hl3 ht).symm
  refine ⟨l, xs, _, rfl, rfl, hl4, ?_, ?_⟩
  · have := dpa_len hall
    rw [List.length_map] at this
    rw [this]
    exact Nat.lt_of_le_of_lt hn (by decide)
  · have hT : SqT K (upd (upd H3 t (.tup [.str (wayS b), .int (1 + r)])) l (.lst (xs ++ [.ref t]))) t [.str (wayS b), .int (1 + r)] := SqT.of (by rw [upd_ne ntl]; exact upd_same)
    refine k (b, 1 + r) _ ⟨⟨_, upd_same, ?_⟩, ?_⟩ ?_ ?_
    · rw [List.map_append]
      exact dpa_snoc (.tup hT (.cons (.str _) (.cons (.int _) .nil))) (dpa_fxN (noT_l hl4) fx_upd (vsD_flats vs) hall4)
    · intro v hm
      rcases List.mem_append.mp hm with hm | hm
      · exact hc v hm
      · rw [List.mem_singleton.mp hm]
        exact ⟨by show 1 ≤ 1 + r; omega, by show 1 + r ≤ 6; omega⟩
    · obtain ⟨s, x, r, hd, hr⟩ := dst_ex e4 hD3
      exact ⟨s, x, r, by rw [upd_ne nl.symm]; exact hd, hr⟩
    · intro b2 o nb nl2 hb
      rw [upd_ne nl2]
      exact e4 _ _ (F b2 o nb hb)
theorem pure_law_drawn {K : PySem.W.Frag} (ws : List V) (H : Hp) (Q : VK) (E : XK) (h : sp_law_drawn K ws H Q E) : t_law_drawn_0 K E { nx := fun _ H' => Q .non H', rt := Q } (start ["_law_d", "_law_verses", "_law_k"] ws) H := by
  unfold sp_law_drawn at h
  obtain ⟨d, rfl, hD, k⟩ := h
  refine ⟨Nat.zero_le _, fun l hl => ?_⟩
  show t_law_drawn_1 K E _ [some (.ref d), some (.ref l), none] _
  have nl : l ≠ d := by
    obtain ⟨zs, hd⟩ := dst_l hD
    exact (ne_of_none hd hl).symm
  have e1 := ex_new (o := .lst []) hl
  unfold t_law_drawn_1
  refine ⟨_, rfl, ?_⟩
  unfold sp_law_below
  refine ⟨d, 4, rfl, dst_ex e1 hD, by decide, by decide, fun r H1 r0 r4 hD1 f1 => ?_⟩
  have hl1 : H1 l = some (.lst []) := f1 l _ nl upd_same
  have fr1 : ∀ b o, b ≠ d → b ≠ l → H b = some o → H1 b = some o := fun b o nb _ hb => f1 b o nb (e1 b o hb)
  refine ⟨1, r, rfl, rfl, 1 + r, rfl, by omega, by omega, for_range (fun i σ H' => ∃ (vs : List Ve) (u : Option V), σ = [some (.ref d), some (.ref l), u] ∧ VsL K H' l vs ∧ DSt H' d ∧ vs.length = i ∧ (∀ b o, b ≠ d → b ≠ l → H b = some o → H' b = some o))
    ⟨[], none, rfl, ⟨⟨[], hl1, .nil⟩, fun v hm => nomatch hm⟩, hD1, rfl, fr1⟩ ?_ ?_⟩
  · rintro i σ H2 hi ⟨vs, u, rfl, hv, hD2, hlen, fr⟩
    refine drawn_turn (E := E) hD2 nl hv (by omega) fun v H3 hv3 hD3 fr3 => ?_
    refine ⟨vs ++ [v], _, rfl, hv3, hD3, by rw [List.length_append, hlen]; rfl, fun b o nb nl2 hb => fr3 b o nb nl2 (fr b o nb nl2 hb)⟩
  · rintro σ H2 ⟨vs, u, rfl, ⟨⟨xs, hl2, hall⟩, hc⟩, hD2, hlen, fr⟩
    refine ⟨_, rfl, l, xs, rfl, .inl ⟨SqL.of hl2, fun t ht => ?_⟩⟩
    have e2 := ex_new (o := .tup xs) ht
    refine ⟨_, rfl, ?_⟩
    unfold sp_law_below
    refine ⟨d, 3, rfl, dst_ex e2 hD2, by decide, by decide, fun r2 H3 q0 q3 hD3 f3 => ?_⟩
    refine ⟨1, r2, rfl, rfl, (by show 2 ≤ sizeLine; decide), fun t2 ht2 => ?_⟩
    have e4 := ex_new (o := .tup [.ref t, .int (1 + r2)]) ht2
    have dv : Dp K (upd H2 t (.tup xs)) (.ref t) (vsD vs) := .tup (SqT.of upd_same) (dpa_ex e2 hall)
    have dv3 := dp_fxN (dst_noT (dst_ex e2 hD2)) f3 (vsD_flat vs) dv
    refine k (.ref t2) vs (1 + r2) _ ⟨by omega, by omega, hc, by omega, by omega⟩ (.tup (SqT.of upd_same) (.cons (dp_ex e4 dv3) (.cons (.int _) .nil))) (dst_ex e4 hD3) fun b o nb hb => ?_
    have nbl : b ≠ l := fun z => by
      rw [z, hl] at hb
      cases hb
    exact e4 _ _ (f3 b o nb (e2 _ _ (fr b o nb nbl hb)))

end Z
namespace Z
open PySem PySem.Spec PyProof.Rows L2
local macro_rules | `(tactic| walk_at "look") => `(tactic| first | assumption | exact upd_same | exact SqL.of (by assumption) | exact SqT.of (by assumption) | exact SqL.of upd_same | exact SqT.of upd_same)
local macro_rules | `(tactic| walk_at "at") => `(tactic| first | exact at0 | exact at1 | exact at2 | exact at3 | exact ix0 | exact ix1 | assumption | exact atI_nat (by rfl))
local macro_rules | `(tactic| walk_at "sd") => `(tactic| ((try dsimp only); first | assumption | omega | (unfold CMul; omega) | (unfold CDiv; omega) | (unfold CPow; decide) | decide))
local macro_rules | `(tactic| walk_at "st") => `(tactic| first
  | (refine ⟨_, rfl, ?_⟩)
  | (refine ⟨_, _, rfl, rfl, ?_⟩)
  | (refine ⟨rfl, ?_⟩)
  | (refine .inl ⟨_, rfl, ?_⟩)
  | (refine ⟨_, _, _, _, rfl, rfl, (by walk_at "look"), (by walk_at "at"), ?_⟩)
  | (refine ⟨_, _, rfl, .inl (by walk_at "look"), ?_⟩)
  | (refine And.intro (by walk_at "sd") ?_)
  | fail "no step")
local macro_rules | `(tactic| walk_at "go") => `(tactic| repeat' (walk_at "st"))
local macro_rules | `(tactic| walk_at "ans") => `(tactic| (intro Q q; (repeat' (walk_at "st")); exact q))

/-! ### x[i] of a list or a tuple -/
def rIxA (K : PySem.W.Frag) : R2 := fun x y H Q => rIxL K x y H Q ∨ rIxT K x y H Q
theorem ix_any {X : Cx} : IxR X (rIxA X.K) := by
  intro value slice pins s σ H x y v u Q I rx ry h hs
  rcases h with h | h
  · exact ix_list value slice pins s σ H x y v u Q I rx ry h hs
  · exact ix_tup value slice pins s σ H x y v u Q I rx ry h hs
/-! ### the law's own equality -/
mutual
def same : PyData → PyData → Bool
  | .none, .none => true
  | .bool a, .bool b => decide (a = b)
  | .int a, .int b => decide (a = b)
  | .str a, .str b => decide (a = b)
  | .list a, .list b => sameA a b
  | .tuple a, .tuple b => sameA a b
  | _, _ => false
def sameA : List PyData → List PyData → Bool
  | [], [] => true
  | x :: xs, y :: ys => same x y && sameA xs ys
  | _, _ => false
end
/-- no dict, so deep -/
def okD : Nat → PyData → Prop
  | _, .none => True
  | _, .bool _ => True
  | _, .int _ => True
  | _, .str _ => True
  | 0, _ => False
  | n + 1, .list ds => ds.length ≤ 10000 ∧ ∀ d ∈ ds, okD n d
  | n + 1, .tuple ds => ds.length ≤ 10000 ∧ ∀ d ∈ ds, okD n d
  | _ + 1, .dict _ => False
/-- n: how deep the second one is -/
def spEq : Nat → PySem.W.Frag → Sp
  | 0, _ => fun _ _ _ _ => False
  | n + 1, K => fun ws H Q _ => ∃ (x y : V) (d e : PyData), ws = [x, y] ∧ Dp K H x d ∧ Dp K H y e ∧ okD n e ∧ ∀ H', Ex H H' → Q (.bl (same d e)) H'
@[irreducible] def sp_law_equal (n : Nat) (K : PySem.W.Frag) : Sp := spEq n K
def t_law_equal_0a_0 (K : PySem.W.Frag) (n : Nat) (E : XK) : TS := (tRet (tOp oIsN (tVar 0) (tC .non)))

def t_law_equal_1a_0 (K : PySem.W.Frag) (n : Nat) (E : XK) : TS := (tRet (tAndV (tCB (rIsi K) (tCons (tVar 0) (tCons (tC (.ty "bool")) tNil))) (tOp rEq (tVar 0) (tVar 1))))

def t_law_equal_2a_0 (K : PySem.W.Frag) (n : Nat) (E : XK) : TS := (tRet (tAndV (tCB (rIsi K) (tCons (tVar 0) (tCons (tC (.ty "int")) tNil))) (tAndV (tNotV (tCB (rIsi K) (tCons (tVar 0) (tCons (tC (.ty "bool")) tNil)))) (tOp rEq (tVar 0) (tVar 1)))))

def t_law_equal_3a_0 (K : PySem.W.Frag) (n : Nat) (E : XK) : TS := (tRet (tAndV (tCB (rIsi K) (tCons (tVar 0) (tCons (tC (.ty "str")) tNil))) (tOp rEq (tVar 0) (tVar 1))))

def t_law_equal_4a_0a_0 (K : PySem.W.Frag) (n : Nat) (E : XK) : TS := (tRet (tC (.bl false)))

def t_law_equal_4a_1 (K : PySem.W.Frag) (n : Nat) (E : XK) : TS := (tRet (tCB (rAll K) (tCons (tLc (iList K (tCB (cLst K) (tCons (tVar 0) tNil))) (gName 2) tYes (tCall (sp_law_equal n K) [] E0 (tCons (tOp (rIxL K) (tVar 0) (tVar 2)) (tCons (tOp (rIxL K) (tVar 1) (tVar 2)) tNil))) [2]) tNil)))

@[irreducible] def t_law_equal_4a_0 (K : PySem.W.Frag) (n : Nat) (E : XK) : TS := tSeq (tIfS (tOr (tNot (tB (tCB (rIsi K) (tCons (tVar 0) (tCons (tC (.ty "dict")) tNil))))) (tTest (tOp rNe (tCB (cLst K) (tCons (tVar 0) tNil)) (tCB (rSorted K) (tCons (tCB (cLst K) (tCons (tVar 1) tNil)) tNil)))))
    (t_law_equal_4a_0a_0 K n E) tNext) (t_law_equal_4a_1 K n E)

def t_law_equal_5a_0 (K : PySem.W.Frag) (n : Nat) (E : XK) : TS := (tRet (tC (.bl false)))

def t_law_equal_6a_0 (K : PySem.W.Frag) (n : Nat) (E : XK) : TS := (tRet (tC (.bl false)))

def t_law_equal_7a_0 (K : PySem.W.Frag) (n : Nat) (E : XK) : TS := (tRet (tC (.bl false)))

def t_law_equal_8 (K : PySem.W.Frag) (n : Nat) (E : XK) : TS := (tRet (tCB (rAll K) (tCons (tLc (iRng1 (tCons (tCB (cLen K) (tCons (tVar 1) tNil)) tNil)) (gName 3) tYes (tCall (sp_law_equal n K) [] E0 (tCons (tOp (rIxA K) (tVar 0) (tVar 3)) (tCons (tOp (rIxA K) (tVar 1) (tVar 3)) tNil))) [3]) tNil)))

@[irreducible] def t_law_equal_7 (K : PySem.W.Frag) (n : Nat) (E : XK) : TS := tSeq (tIfS (tTest (tOp rNe (tCB (cLen K) (tCons (tVar 0) tNil)) (tCB (cLen K) (tCons (tVar 1) tNil))))
    (t_law_equal_7a_0 K n E) tNext) (t_law_equal_8 K n E)

@[irreducible] def t_law_equal_6 (K : PySem.W.Frag) (n : Nat) (E : XK) : TS := tSeq (tIfS (tTest (tOp rNe (tCB (rIsi K) (tCons (tVar 1) (tCons (tC (.ty "list")) tNil))) (tCB (rIsi K) (tCons (tVar 0) (tCons (tC (.ty "list")) tNil)))))
    (t_law_equal_6a_0 K n E) tNext) (t_law_equal_7 K n E)

@[irreducible] def t_law_equal_5 (K : PySem.W.Frag) (n : Nat) (E : XK) : TS := tSeq (tIfS (tTest (tOp rNe (tCB (rIsi K) (tCons (tVar 1) (tCons (tC (.ty "tuple")) tNil))) (tCB (rIsi K) (tCons (tVar 0) (tCons (tC (.ty "tuple")) tNil)))))
    (t_law_equal_5a_0 K n E) tNext) (t_law_equal_6 K n E)

@[irreducible] def t_law_equal_4 (K : PySem.W.Frag) (n : Nat) (E : XK) : TS := tSeq (tIfS (tB (tCB (rIsi K) (tCons (tVar 1) (tCons (tC (.ty "dict")) tNil))))
    (t_law_equal_4a_0 K n E) tNext) (t_law_equal_5 K n E)

@[irreducible] def t_law_equal_3 (K : PySem.W.Frag) (n : Nat) (E : XK) : TS := tSeq (tIfS (tB (tCB (rIsi K) (tCons (tVar 1) (tCons (tC (.ty "str")) tNil))))
    (t_law_equal_3a_0 K n E) tNext) (t_law_equal_4 K n E)

@[irreducible] def t_law_equal_2 (K : PySem.W.Frag) (n : Nat) (E : XK) : TS := tSeq (tIfS (tB (tCB (rIsi K) (tCons (tVar 1) (tCons (tC (.ty "int")) tNil))))
    (t_law_equal_2a_0 K n E) tNext) (t_law_equal_3 K n E)

@[irreducible] def t_law_equal_1 (K : PySem.W.Frag) (n : Nat) (E : XK) : TS := tSeq (tIfS (tB (tCB (rIsi K) (tCons (tVar 1) (tCons (tC (.ty "bool")) tNil))))
    (t_law_equal_1a_0 K n E) tNext) (t_law_equal_2 K n E)

@[irreducible] def t_law_equal_0 (K : PySem.W.Frag) (n : Nat) (E : XK) : TS := tSeq (tIfS (tTest (tOp oIsN (tVar 1) (tC .non)))
    (t_law_equal_0a_0 K n E) tNext) (t_law_equal_1 K n E)

theorem sameA_len : ∀ {a b : List PyData}, a.length ≠ b.length → sameA a b = false
  | [], [], h => absurd rfl h
  | [], _ :: _, _ => rfl
  | _ :: _, [], _ => rfl
  | x :: a, y :: b, h => by
    show (same x y && sameA a b) = false
    rw [sameA_len (fun z => h (congrArg (· + 1) z)), Bool.and_false]
theorem sameA_all : ∀ {a b : List PyData}, a.length = b.length → sameA a b = ((List.range b.length).map fun i => same (a.getD i .none) (b.getD i .none)).all id
  | [], [], _ => rfl
  | x :: a, y :: b, h => by
    have h2 : a.length = b.length := Nat.succ.inj h
    show (same x y && sameA a b) = _
    rw [sameA_all h2, List.length_cons, List.range_succ_eq_map, List.map_cons, List.all_cons, List.map_map]
    rfl
  | [], _ :: _, h => by cases h
  | _ :: _, [], h => by cases h
theorem scal_bl (a b : Bool) : scal (V.bl a) (V.bl b) = true := rfl
theorem d_bl (a b : Bool) : decide (V.bl a = V.bl b) = decide (a = b) := by
  cases a <;> cases b <;> decide
theorem getD_at {α : Type} {l : List α} {i : Nat} {d : α} (h : i < l.length) : l[i]? = some (l.getD i d) := by
  rw [List.getD_eq_getElem?_getD, List.getElem?_eq_getElem h]
  rfl
/-- the i-th of a sequence of data -/
theorem ixA_go {K : PySem.W.Frag} {H : Hp} {a : Addr} {xs : List V} {ds : List PyData} {i : Nat} {j : Int} {Q : VK} (hj : j = (i : Int)) (hs : SqL K H a xs ∨ SqT K H a xs) (hall : DpAll K H xs ds) (hi : i < ds.length) (q : ∀ v, Dp K H v (ds.getD i .none) → Q v H) : rIxA K (.ref a) (.int j) H Q := by
  obtain ⟨v, hv, hd⟩ := dpa_get hall (getD_at (d := PyData.none) hi)
  rcases hs with hs | hs
  · exact .inl ⟨a, xs, _, v, rfl, rfl, hs, at_of hj hv, q v hd⟩
  · exact .inr ⟨a, xs, _, v, rfl, rfl, hs, at_of hj hv, q v hd⟩
section
variable {K : PySem.W.Frag} {E : XK} {n : Nat} {H : Hp} {Q : VK}
theorem equal_8 {D : Ends} {a b : Addr} {u2 u3 : Option V} {xs ys : List V} {ds es : List PyData} (ha : SqL K H a xs ∨ SqT K H a xs) (hb : SqL K H b ys ∨ SqT K H b ys) (da : DpAll K H xs ds) (db : DpAll K H ys es)
    (h10 : es.length ≤ 10000) (hok : ∀ d ∈ es, okD n d) (k : ∀ H', Ex H H' → D.rt (.bl (sameA ds es)) H') : t_law_equal_7 K (n + 1) E D [some (.ref a), some (.ref b), u2, u3] H := by
  unfold t_law_equal_7
  have la := dpa_len da
  have lb := dpa_len db
  refine if_go (!decide (ds.length = es.length)) (fun Q q => ?_) (fun c => ?_) (fun c => ?_)
  · refine ⟨_, rfl, a, xs, rfl, ha, _, rfl, b, ys, rfl, hb, rfl, _, rfl, ?_⟩
    rw [d_int, la, lb]
    have e : decide ((ds.length : Int) = (es.length : Int)) = decide (ds.length = es.length) := by
      by_cases h : ds.length = es.length
      · rw [decide_eq_true h, decide_eq_true (by omega)]
      · rw [decide_eq_false h, decide_eq_false (by omega)]
    rw [e]
    exact q
  · have h : ds.length ≠ es.length := fun z => by
      rw [decide_eq_true z] at c
      cases c
    have := k H (ex_refl _)
    rw [sameA_len h] at this
    exact this
  · have h : ds.length = es.length := by
      by_cases z : ds.length = es.length
      · exact z
      · rw [decide_eq_false z] at c
        cases c
    have h10000 : (10000 : Nat) < sizeLine := by decide
    refine ⟨_, rfl, b, ys, rfl, hb, _, rfl, by omega, by omega, fun p hp => lc_map walk_range (fun i => .bl (same (ds.getD i .none) (es.getD i .none))) hp (by omega) (fun _ _ => trivial) ?_ ?_⟩
    · rintro i x H3 H4 hi e ⟨rfl, rfl⟩ Q Zf q
      have hi2 : i < es.length := by omega
      have e0 : (0 : Int) + (i : Int) = ((i : Nat) : Int) := by omega
      refine ⟨rfl, iteT (B := Zf H4) ?_⟩
      refine ⟨_, rfl, _, rfl, ?_⟩
      have ha4 : SqL K H4 a xs ∨ SqT K H4 a xs := ha.imp (sq_ex e) (sqt_ex e)
      have hb4 : SqL K H4 b ys ∨ SqT K H4 b ys := hb.imp (sq_ex e) (sqt_ex e)
      refine ixA_go e0 ha4 (dpa_ex e da) (by omega) fun v hv => ⟨_, rfl, _, rfl, ?_⟩
      refine ixA_go e0 hb4 (dpa_ex e db) hi2 fun w hw => ?_
      unfold sp_law_equal
      refine ⟨v, w, _, _, rfl, hv, hw, hok _ ?_, fun H5 e5 => q H5 e5⟩
      exact List.mem_of_getElem? (getD_at (d := PyData.none) hi2)
    · intro H3 e h3
      refine ⟨p, ((List.range es.length).map fun i => same (ds.getD i .none) (es.getD i .none)), rfl, ?_, ?_⟩
      · have e5 : ((ys.length : Int)).toNat = es.length := by omega
        rw [e5] at h3
        rw [List.map_map]
        exact SqL.of h3
      · rw [← sameA_all h]
        exact k H3 e
theorem isiD_go {v : V} {d : PyData} {c : String} (b : Bool) (h : Dp K H v d) (e : kitB (tyN d) c = some b) {i : Nat} {σ : L2.St} (hv : σ[i]? = some (some v)) (q : Q (.bl b) H) : tCB (rIsi K) (tCons (tVar i) (tCons (tC (.ty c)) tNil)) σ H Q :=
  ⟨v, hv, isi_go h e q⟩
/-- isinstance of the first one, then its equality -/
theorem and_isi {v : V} {d : PyData} {c : String} (b r : Bool) (hd : Dp K H v d) (e : kitB (tyN d) c = some b) {te : TE} {σ : L2.St} (hv : σ[0]? = some (some v)) (hf : b = false → r = false) (ht : b = true → ∀ Q : VK, Q (.bl r) H → te σ H Q) (q : Q (.bl r) H) :
    tAndV (tCB (rIsi K) (tCons (tVar 0) (tCons (tC (.ty c)) tNil))) te σ H Q := by
  refine andV_go b r (fun Q q => isiD_go b hd e hv q) (fun hb Q q => ht hb Q q) ?_
  cases b with
  | true => exact q
  | false =>
    have h := hf rfl
    subst h
    exact q
/-- tests that one kind alone passes -/
theorem kind_no {t u : TS} {D : Ends} {v : V} {d : PyData} {c : String} {σ : L2.St} (hd : Dp K H v d) (e : kitB (tyN d) c = some false) (hv : σ[1]? = some (some v)) (k : u D σ H) :
    tIfS (tB (tCB (rIsi K) (tCons (tVar 1) (tCons (tC (.ty c)) tNil)))) t u D σ H :=
  if_go false (fun Q q => isiD_go (Q := fun x H1 => ∃ c, x = .bl c ∧ Q c H1) false hd e hv ⟨false, rfl, q⟩) (fun z => nomatch z) fun _ => k
theorem kind_yes {t u : TS} {D : Ends} {v : V} {d : PyData} {c : String} {σ : L2.St} (hd : Dp K H v d) (e : kitB (tyN d) c = some true) (hv : σ[1]? = some (some v)) (k : t D σ H) :
    tIfS (tB (tCB (rIsi K) (tCons (tVar 1) (tCons (tC (.ty c)) tNil)))) t u D σ H :=
  if_go true (fun Q q => isiD_go (Q := fun x H1 => ∃ c, x = .bl c ∧ Q c H1) true hd e hv ⟨true, rfl, q⟩) (fun _ => k) fun z => nomatch z
/-- both are of a kind, or not -/
theorem kind_ne {t u : TS} {D : Ends} {v w : V} {d e : PyData} {c : String} {σ : L2.St} (b1 b2 : Bool) (hd : Dp K H v d) (he : Dp K H w e) (ed : kitB (tyN d) c = some b1) (ee : kitB (tyN e) c = some b2) (hv : σ[0]? = some (some v)) (hw : σ[1]? = some (some w))
    (k1 : b2 ≠ b1 → t D σ H) (k2 : b2 = b1 → u D σ H) :
    tIfS (tTest (tOp rNe (tCB (rIsi K) (tCons (tVar 1) (tCons (tC (.ty c)) tNil))) (tCB (rIsi K) (tCons (tVar 0) (tCons (tC (.ty c)) tNil))))) t u D σ H := by
  refine if_go (!decide (b2 = b1)) (fun Q q => ?_) (fun z => k1 fun y => ?_) (fun z => k2 ?_)
  · refine isiD_go b2 he ee hw (isiD_go b1 hd ed hv ⟨scal_bl _ _, _, rfl, ?_⟩)
    rw [d_bl]
    exact q
  · rw [decide_eq_true y] at z
    cases z
  · by_cases y : b2 = b1
    · exact y
    · rw [decide_eq_false y] at z
      cases z
theorem tyN_kit : ∀ d : PyData, kitB (tyN d) "bool" = some (tyN d == "bool") ∧ kitB (tyN d) "int" = some (tyN d == "int" || tyN d == "bool") ∧ kitB (tyN d) "str" = some (tyN d == "str") ∧ kitB (tyN d) "dict" = some (tyN d == "dict") ∧
    kitB (tyN d) "tuple" = some (tyN d == "tuple") ∧ kitB (tyN d) "list" = some (tyN d == "list")
  | .none => by decide +kernel
  | .bool _ => (by decide +kernel : kitB "bool" "bool" = some ("bool" == "bool") ∧ kitB "bool" "int" = some ("bool" == "int" || "bool" == "bool") ∧ kitB "bool" "str" = some ("bool" == "str") ∧ kitB "bool" "dict" = some ("bool" == "dict") ∧ kitB "bool" "tuple" = some ("bool" == "tuple") ∧ kitB "bool" "list" = some ("bool" == "list"))
  | .int _ => (by decide +kernel : kitB "int" "bool" = some ("int" == "bool") ∧ kitB "int" "int" = some ("int" == "int" || "int" == "bool") ∧ kitB "int" "str" = some ("int" == "str") ∧ kitB "int" "dict" = some ("int" == "dict") ∧ kitB "int" "tuple" = some ("int" == "tuple") ∧ kitB "int" "list" = some ("int" == "list"))
  | .str _ => (by decide +kernel : kitB "str" "bool" = some ("str" == "bool") ∧ kitB "str" "int" = some ("str" == "int" || "str" == "bool") ∧ kitB "str" "str" = some ("str" == "str") ∧ kitB "str" "dict" = some ("str" == "dict") ∧ kitB "str" "tuple" = some ("str" == "tuple") ∧ kitB "str" "list" = some ("str" == "list"))
  | .list _ => (by decide +kernel : kitB "list" "bool" = some ("list" == "bool") ∧ kitB "list" "int" = some ("list" == "int" || "list" == "bool") ∧ kitB "list" "str" = some ("list" == "str") ∧ kitB "list" "dict" = some ("list" == "dict") ∧ kitB "list" "tuple" = some ("list" == "tuple") ∧ kitB "list" "list" = some ("list" == "list"))
  | .tuple _ => (by decide +kernel : kitB "tuple" "bool" = some ("tuple" == "bool") ∧ kitB "tuple" "int" = some ("tuple" == "int" || "tuple" == "bool") ∧ kitB "tuple" "str" = some ("tuple" == "str") ∧ kitB "tuple" "dict" = some ("tuple" == "dict") ∧ kitB "tuple" "tuple" = some ("tuple" == "tuple") ∧ kitB "tuple" "list" = some ("tuple" == "list"))
  | .dict _ => (by decide +kernel : kitB "dict" "bool" = some ("dict" == "bool") ∧ kitB "dict" "int" = some ("dict" == "int" || "dict" == "bool") ∧ kitB "dict" "str" = some ("dict" == "str") ∧ kitB "dict" "dict" = some ("dict" == "dict") ∧ kitB "dict" "tuple" = some ("dict" == "tuple") ∧ kitB "dict" "list" = some ("dict" == "list"))
/-- of two sequences, or where one of them is none -/
theorem equal_5 {D : Ends} {x : V} {b : Addr} {u2 u3 : Option V} {d e : PyData} {ys : List V} {es : List PyData} (hx : Dp K H x d) (he : (e = .list es ∧ SqL K H b ys) ∨ (e = .tuple es ∧ SqT K H b ys)) (db : DpAll K H ys es)
    (h10 : es.length ≤ 10000) (hok : ∀ d ∈ es, okD n d) (k : ∀ H', Ex H H' → D.rt (.bl (same d e)) H') : t_law_equal_5 K (n + 1) E D [some x, some (.ref b), u2, u3] H := by
  have hy : Dp K H (.ref b) e := by
    rcases he with ⟨rfl, h⟩ | ⟨rfl, h⟩
    · exact .lst h db
    · exact .tup h db
  obtain ⟨_, _, _, _, dt, dl⟩ := tyN_kit d
  obtain ⟨_, _, _, _, et, el⟩ := tyN_kit e
  unfold t_law_equal_5
  refine kind_ne _ _ hx hy dt et rfl rfl (fun z => ?_) (fun z1 => ?_)
  · have : same d e = false := by
      rcases he with ⟨rfl, _⟩ | ⟨rfl, _⟩ <;> cases d <;> first | rfl | exact absurd rfl z
    have k2 := k H (ex_refl _)
    rw [this] at k2
    exact k2
  show t_law_equal_6 K (n + 1) E D [some x, some (.ref b), u2, u3] H
  unfold t_law_equal_6
  refine kind_ne _ _ hx hy dl el rfl rfl (fun z => ?_) (fun z2 => ?_)
  · have : same d e = false := by
      rcases he with ⟨rfl, _⟩ | ⟨rfl, _⟩ <;> cases d <;> first | rfl | exact absurd rfl z
    have k2 := k H (ex_refl _)
    rw [this] at k2
    exact k2
  show t_law_equal_7 K (n + 1) E D [some x, some (.ref b), u2, u3] H
  rcases he with ⟨rfl, hb⟩ | ⟨rfl, hb⟩
  · cases d with
    | list ds =>
      obtain ⟨a, xs, rfl, ha, da⟩ := dp_lst hx
      exact equal_8 (.inl ha) (.inl hb) da db h10 hok k
    | none => exact absurd z2 (show ¬ ("list" == "list") = ("NoneType" == "list") by decide +kernel)
    | bool _ => exact absurd z2 (show ¬ ("list" == "list") = ("bool" == "list") by decide +kernel)
    | int _ => exact absurd z2 (show ¬ ("list" == "list") = ("int" == "list") by decide +kernel)
    | str _ => exact absurd z2 (show ¬ ("list" == "list") = ("str" == "list") by decide +kernel)
    | tuple _ => exact absurd z2 (show ¬ ("list" == "list") = ("tuple" == "list") by decide +kernel)
    | dict _ => exact absurd z2 (show ¬ ("list" == "list") = ("dict" == "list") by decide +kernel)
  · cases d with
    | tuple ds =>
      obtain ⟨a, xs, rfl, ha, da⟩ := dp_tup hx
      exact equal_8 (.inr ha) (.inr hb) da db h10 hok k
    | none => exact absurd z1 (show ¬ ("tuple" == "tuple") = ("NoneType" == "tuple") by decide +kernel)
    | bool _ => exact absurd z1 (show ¬ ("tuple" == "tuple") = ("bool" == "tuple") by decide +kernel)
    | int _ => exact absurd z1 (show ¬ ("tuple" == "tuple") = ("int" == "tuple") by decide +kernel)
    | str _ => exact absurd z1 (show ¬ ("tuple" == "tuple") = ("str" == "tuple") by decide +kernel)
    | list _ => exact absurd z1 (show ¬ ("tuple" == "tuple") = ("list" == "tuple") by decide +kernel)
    | dict _ => exact absurd z1 (show ¬ ("tuple" == "tuple") = ("dict" == "tuple") by decide +kernel)
theorem pure_law_equal (ws : List V) (h : sp_law_equal (n + 1) K ws H Q E) : t_law_equal_0 K n E { nx := fun _ H' => Q .non H', rt := Q } (start ["_law_actual", "_law_expected", "_law_key", "_law_k"] ws) H := by
  unfold sp_law_equal at h
  obtain ⟨x, y, d, e, rfl, hx, hy, hok, k⟩ := h
  show t_law_equal_0 K n E _ [some x, some y, none, none] H
  unfold t_law_equal_0
  obtain ⟨db, di, ds, _, _, _⟩ := tyN_kit d
  have kk : ∀ r, same d e = r → Q (.bl r) H := fun r h => by
    rw [← h]
    exact k H (ex_refl _)
  cases e with
  | none =>
    cases hy
    refine if_go true (fun Q q => ⟨_, rfl, rfl, _, rfl, q⟩) (fun _ => ⟨_, rfl, rfl, kk _ ?_⟩) (fun z => nomatch z)
    cases hx <;> rfl
  | bool b =>
    cases hy
    refine if_go false (fun Q q => ⟨_, rfl, rfl, _, rfl, q⟩) (fun z => nomatch z) (fun _ => ?_)
    show t_law_equal_1 K n E { nx := fun _ H' => Q .non H', rt := Q } [some x, some (.bl b), none, none] H
    unfold t_law_equal_1
    refine kind_yes (.bl b) (show kitB "bool" "bool" = some true by decide +kernel) rfl ?_
    refine and_isi _ (same d (.bool b)) hx db rfl (fun z => ?_) (fun z Q q => ?_) (kk _ rfl)
    · cases d <;> first | rfl | exact absurd z (show ¬ ("bool" == "bool") = false by decide +kernel)
    · cases d with
      | bool c =>
        cases hx
        refine ⟨_, rfl, _, rfl, rfl, ?_⟩
        rw [d_bl]
        exact q
      | none => exact absurd z (show ¬ ("NoneType" == "bool") = true by decide +kernel)
      | int _ => exact absurd z (show ¬ ("int" == "bool") = true by decide +kernel)
      | str _ => exact absurd z (show ¬ ("str" == "bool") = true by decide +kernel)
      | list _ => exact absurd z (show ¬ ("list" == "bool") = true by decide +kernel)
      | tuple _ => exact absurd z (show ¬ ("tuple" == "bool") = true by decide +kernel)
      | dict _ => exact absurd z (show ¬ ("dict" == "bool") = true by decide +kernel)
  | int b =>
    cases hy
    refine if_go false (fun Q q => ⟨_, rfl, rfl, _, rfl, q⟩) (fun z => nomatch z) (fun _ => ?_)
    show t_law_equal_1 K n E { nx := fun _ H' => Q .non H', rt := Q } [some x, some (.int b), none, none] H
    unfold t_law_equal_1
    refine kind_no (.int b) (show kitB "int" "bool" = some false by decide +kernel) rfl ?_
    show t_law_equal_2 K n E { nx := fun _ H' => Q .non H', rt := Q } [some x, some (.int b), none, none] H
    unfold t_law_equal_2
    refine kind_yes (.int b) (show kitB "int" "int" = some true by decide +kernel) rfl ?_
    cases d with
    | int c =>
      cases hx
      refine and_isi true (decide (c = b)) (.int c) (show kitB "int" "int" = some true by decide +kernel) rfl (fun z => nomatch z) (fun _ Q q => andV_go true (decide (c = b)) (fun Q q => isiD_go (Q := fun x H1 => ∃ c, x = .bl c ∧ Q (.bl (!c)) H1) false (.int c) (show kitB "int" "bool" = some false by decide +kernel) rfl ⟨false, rfl, q⟩) (fun _ Q q => ⟨_, rfl, _, rfl, rfl, ?_⟩) q) (kk _ rfl)
      rw [d_int]
      exact q
    | bool c =>
      refine and_isi true false hx (show kitB "bool" "int" = some true by decide +kernel) rfl (fun z => nomatch z) (fun _ Q q => andV_go false false (fun Q q => isiD_go (Q := fun x H1 => ∃ c, x = .bl c ∧ Q (.bl (!c)) H1) true hx (show kitB "bool" "bool" = some true by decide +kernel) rfl ⟨true, rfl, q⟩) (fun z => nomatch z) q) (kk _ rfl)
    | none => exact and_isi false false hx (show kitB "NoneType" "int" = some false by decide +kernel) rfl (fun _ => rfl) (fun z => nomatch z) (kk _ rfl)
    | str _ => exact and_isi false false hx (show kitB "str" "int" = some false by decide +kernel) rfl (fun _ => rfl) (fun z => nomatch z) (kk _ rfl)
    | list _ => exact and_isi false false hx (show kitB "list" "int" = some false by decide +kernel) rfl (fun _ => rfl) (fun z => nomatch z) (kk _ rfl)
    | tuple _ => exact and_isi false false hx (show kitB "tuple" "int" = some false by decide +kernel) rfl (fun _ => rfl) (fun z => nomatch z) (kk _ rfl)
    | dict _ => exact and_isi false false hx (show kitB "dict" "int" = some false by decide +kernel) rfl (fun _ => rfl) (fun z => nomatch z) (kk _ rfl)
  | str b =>
    cases hy
    refine if_go false (fun Q q => ⟨_, rfl, rfl, _, rfl, q⟩) (fun z => nomatch z) (fun _ => ?_)
    show t_law_equal_1 K n E { nx := fun _ H' => Q .non H', rt := Q } [some x, some (.str b), none, none] H
    unfold t_law_equal_1
    refine kind_no (.str b) (show kitB "str" "bool" = some false by decide +kernel) rfl ?_
    show t_law_equal_2 K n E { nx := fun _ H' => Q .non H', rt := Q } [some x, some (.str b), none, none] H
    unfold t_law_equal_2
    refine kind_no (.str b) (show kitB "str" "int" = some false by decide +kernel) rfl ?_
    show t_law_equal_3 K n E { nx := fun _ H' => Q .non H', rt := Q } [some x, some (.str b), none, none] H
    unfold t_law_equal_3
    refine kind_yes (.str b) (show kitB "str" "str" = some true by decide +kernel) rfl ?_
    cases d with
    | str c =>
      cases hx
      refine and_isi true (decide (c = b)) (.str c) (show kitB "str" "str" = some true by decide +kernel) rfl (fun z => nomatch z) (fun _ Q q => ⟨_, rfl, _, rfl, rfl, ?_⟩) (kk _ rfl)
      rw [d_str]
      exact q
    | none => exact and_isi false false hx (show kitB "NoneType" "str" = some false by decide +kernel) rfl (fun _ => rfl) (fun z => nomatch z) (kk _ rfl)
    | bool _ => exact and_isi false false hx (show kitB "bool" "str" = some false by decide +kernel) rfl (fun _ => rfl) (fun z => nomatch z) (kk _ rfl)
    | int _ => exact and_isi false false hx (show kitB "int" "str" = some false by decide +kernel) rfl (fun _ => rfl) (fun z => nomatch z) (kk _ rfl)
    | list _ => exact and_isi false false hx (show kitB "list" "str" = some false by decide +kernel) rfl (fun _ => rfl) (fun z => nomatch z) (kk _ rfl)
    | tuple _ => exact and_isi false false hx (show kitB "tuple" "str" = some false by decide +kernel) rfl (fun _ => rfl) (fun z => nomatch z) (kk _ rfl)
    | dict _ => exact and_isi false false hx (show kitB "dict" "str" = some false by decide +kernel) rfl (fun _ => rfl) (fun z => nomatch z) (kk _ rfl)
  | list es =>
    obtain ⟨b, ys, rfl, hb, dy⟩ := dp_lst (id hy)
    cases n with
    | zero => exact hok.elim
    | succ n =>
      refine if_go false (fun Q q => ⟨_, rfl, rfl, _, rfl, q⟩) (fun z => nomatch z) (fun _ => ?_)
      show t_law_equal_1 K (n + 1) E { nx := fun _ H' => Q .non H', rt := Q } [some x, some (.ref b), none, none] H
      unfold t_law_equal_1
      refine kind_no hy (show kitB "list" "bool" = some false by decide +kernel) rfl ?_
      show t_law_equal_2 K (n + 1) E { nx := fun _ H' => Q .non H', rt := Q } [some x, some (.ref b), none, none] H
      unfold t_law_equal_2
      refine kind_no hy (show kitB "list" "int" = some false by decide +kernel) rfl ?_
      show t_law_equal_3 K (n + 1) E { nx := fun _ H' => Q .non H', rt := Q } [some x, some (.ref b), none, none] H
      unfold t_law_equal_3
      refine kind_no hy (show kitB "list" "str" = some false by decide +kernel) rfl ?_
      show t_law_equal_4 K (n + 1) E { nx := fun _ H' => Q .non H', rt := Q } [some x, some (.ref b), none, none] H
      unfold t_law_equal_4
      refine kind_no hy (show kitB "list" "dict" = some false by decide +kernel) rfl ?_
      exact equal_5 hx (.inl ⟨rfl, hb⟩) dy hok.1 hok.2 k
  | tuple es =>
    obtain ⟨b, ys, rfl, hb, dy⟩ := dp_tup (id hy)
    cases n with
    | zero => exact hok.elim
    | succ n =>
      refine if_go false (fun Q q => ⟨_, rfl, rfl, _, rfl, q⟩) (fun z => nomatch z) (fun _ => ?_)
      show t_law_equal_1 K (n + 1) E { nx := fun _ H' => Q .non H', rt := Q } [some x, some (.ref b), none, none] H
      unfold t_law_equal_1
      refine kind_no hy (show kitB "tuple" "bool" = some false by decide +kernel) rfl ?_
      show t_law_equal_2 K (n + 1) E { nx := fun _ H' => Q .non H', rt := Q } [some x, some (.ref b), none, none] H
      unfold t_law_equal_2
      refine kind_no hy (show kitB "tuple" "int" = some false by decide +kernel) rfl ?_
      show t_law_equal_3 K (n + 1) E { nx := fun _ H' => Q .non H', rt := Q } [some x, some (.ref b), none, none] H
      unfold t_law_equal_3
      refine kind_no hy (show kitB "tuple" "str" = some false by decide +kernel) rfl ?_
      show t_law_equal_4 K (n + 1) E { nx := fun _ H' => Q .non H', rt := Q } [some x, some (.ref b), none, none] H
      unfold t_law_equal_4
      refine kind_no hy (show kitB "tuple" "dict" = some false by decide +kernel) rfl ?_
      exact equal_5 hx (.inr ⟨rfl, hb⟩) dy hok.1 hok.2 k
  | dict es => cases hy
end

end Z
/-! Outrhymes in plain Lean: rises, lifting a place as children come in, rows by counting. -/
namespace Rh
/-- the rise of turn i, counted from 0, round and round -/
def rI (R : List Int) (i : Int) : Int := R.getD (i % (R.length : Int)).toNat 0
theorem rI_per (R : List Int) (i : Int) : rI R (i + (R.length : Int)) = rI R i := by
  unfold rI; rw [Int.add_emod_right]
theorem rI_perk (R : List Int) (i k : Int) : rI R (i - k * (R.length : Int)) = rI R i := by
  unfold rI
  rw [Int.sub_mul_emod_self_right]
theorem rI_perk' (R : List Int) (i k : Int) : rI R (i + k * (R.length : Int)) = rI R i := by
  unfold rI
  rw [Int.add_mul_emod_self_right]

/-- k more children come in, from size s on; n in all at first; p the place -/
def lift (R : List Int) (n : Int) : Nat → Int → Int → Int
  | 0, _, p => p
  | k + 1, s, p => lift R n k (s + 1) ((p + rI R (n - s - 1)) % (s + 1))

theorem lift_zero (R : List Int) (n s p : Int) : lift R n 0 s p = p := rfl
theorem lift_succ (R : List Int) (n : Int) (k : Nat) (s p : Int) : lift R n (k + 1) s p = lift R n k (s + 1) ((p + rI R (n - s - 1)) % (s + 1)) := rfl
theorem lift_add (R : List Int) (n : Int) : ∀ (j k : Nat) (s p : Int), lift R n (j + k) s p = lift R n k (s + (j : Int)) (lift R n j s p)
  | 0, k, s, p => by
    rw [Nat.zero_add, lift_zero]
    have e : s + ((0 : Nat) : Int) = s := by omega
    rw [e]
  | j + 1, k, s, p => by
    have e : j + 1 + k = (j + k) + 1 := by omega
    have e2 : s + ((j + 1 : Nat) : Int) = s + 1 + (j : Int) := by omega
    rw [e, lift_succ, lift_add R n j k, lift_succ, e2]
/-- the last step apart -/
theorem lift_snoc (R : List Int) (n : Int) (j : Nat) (s p : Int) : lift R n (j + 1) s p = (lift R n j s p + rI R (n - (s + (j : Int)) - 1)) % (s + (j : Int) + 1) := by
  rw [lift_add, lift_succ, lift_zero]
theorem lift_range (R : List Int) (n : Int) : ∀ (k : Nat) (s p : Int), 0 ≤ s → 0 ≤ p → (k = 0 → p < s) → 0 ≤ lift R n k s p ∧ lift R n k s p < s + (k : Int)
  | 0, s, p, _, hp, h => by
    have := h rfl
    rw [lift_zero]
    omega
  | k + 1, s, p, hs, hp, _ => by
    rw [lift_snoc]
    have h0 : (0 : Int) < s + (k : Int) + 1 := by omega
    have h1 := Int.emod_nonneg (lift R n k s p + rI R (n - (s + (k : Int)) - 1)) (show s + (k : Int) + 1 ≠ 0 by omega)
    have h2 := Int.emod_lt_of_pos (lift R n k s p + rI R (n - (s + (k : Int)) - 1)) h0
    omega
theorem lift_bd (R : List Int) (n : Int) (k : Nat) (s p : Int) (hp : 0 ≤ p) (h : p < s) : 0 ≤ lift R n k s p ∧ lift R n k s p < s + (k : Int) :=
  lift_range R n k s p (by omega) hp (fun _ => h)

theorem emod_inj {a b m r : Int} (ha : 0 ≤ a) (ham : a < m) (hb : 0 ≤ b) (hbm : b < m) (e : (a + r) % m = (b + r) % m) : a = b := by
  have h1 : (a + r - (b + r)) % m = 0 := by
    rw [Int.sub_emod, e]; simp
  have h2 : a + r - (b + r) = a - b := by omega
  rw [h2] at h1
  have h3 : m ∣ a - b := Int.dvd_of_emod_eq_zero h1
  by_cases h : a = b
  · exact h
  · exfalso
    rcases Int.lt_or_gt_of_ne h with h | h
    · have h4 : m ∣ b - a := by
        have := Int.dvd_neg.mpr h3
        have e : -(a - b) = b - a := by omega
        rw [e] at this; exact this
      have := Int.le_of_dvd (by omega) h4
      omega
    · have := Int.le_of_dvd (by omega) h3
      omega
theorem lift_inj (R : List Int) (n : Int) : ∀ (k : Nat) (s p q : Int), 0 ≤ p → p ≤ s → 0 ≤ q → q ≤ s → (k = 0 → p < s ∧ q < s) → lift R n k s p = lift R n k s q → p = q
  | 0, s, p, q, _, _, _, _, _, e => e
  | k + 1, s, p, q, hp, hps, hq, hqs, _, e => by
    rw [lift_succ, lift_succ] at e
    have h0 : (0 : Int) < s + 1 := by omega
    have b1 := Int.emod_nonneg (p + rI R (n - s - 1)) (show s + 1 ≠ 0 by omega)
    have b2 := Int.emod_lt_of_pos (p + rI R (n - s - 1)) h0
    have c1 := Int.emod_nonneg (q + rI R (n - s - 1)) (show s + 1 ≠ 0 by omega)
    have c2 := Int.emod_lt_of_pos (q + rI R (n - s - 1)) h0
    have e2 := lift_inj R n k (s + 1) _ _ b1 (by omega) c1 (by omega) (fun _ => ⟨b2, c2⟩) e
    exact emod_inj hp (by omega) hq (by omega) e2

/-! ### leaps: a place that goes straight -/
/-- the sum of j rises from index a down -/
def psum (R : List Int) (a : Int) : Nat → Int
  | 0 => 0
  | j + 1 => psum R a j + rI R (a - (j : Int))
theorem psum_zero (R : List Int) (a : Int) : psum R a 0 = 0 := rfl
theorem psum_succ (R : List Int) (a : Int) (j : Nat) : psum R a (j + 1) = psum R a j + rI R (a - (j : Int)) := rfl
theorem psum_per (R : List Int) (a k : Int) (j : Nat) : psum R (a - k * (R.length : Int)) j = psum R a j := by
  induction j with
  | zero => rfl
  | succ j ih =>
    rw [psum_succ, psum_succ, ih]
    have e : a - k * (R.length : Int) - (j : Int) = a - (j : Int) - k * (R.length : Int) := by omega
    rw [e, rI_perk]
theorem psum_per' (R : List Int) (a k : Int) (j : Nat) : psum R (a + k * (R.length : Int)) j = psum R a j := by
  have := psum_per R (a + k * (R.length : Int)) k j
  have e : a + k * (R.length : Int) - k * (R.length : Int) = a := by omega
  rw [e] at this
  exact this.symm
theorem lift_straight (R : List Int) (n s p : Int) : ∀ j : Nat, (∀ i : Nat, i < j → 0 ≤ p + psum R (n - s - 1) (i + 1) ∧ p + psum R (n - s - 1) (i + 1) ≤ s + (i : Int)) →
    lift R n j s p = p + psum R (n - s - 1) j
  | 0, _ => by rw [lift_zero, psum_zero]; omega
  | j + 1, h => by
    rw [lift_snoc, lift_straight R n s p j (fun i hi => h i (by omega)), psum_succ]
    have hj := h j (by omega)
    rw [psum_succ] at hj
    have e : n - (s + (j : Int)) - 1 = n - s - 1 - (j : Int) := by omega
    rw [e]
    have e2 : p + psum R (n - s - 1) j + rI R (n - s - 1 - (j : Int)) = p + (psum R (n - s - 1) j + rI R (n - s - 1 - (j : Int))) := by omega
    rw [e2]
    exact Int.emod_eq_of_lt hj.1 (by omega)
/-- L whole rhymes -/
theorem lift_leap (R : List Int) (n s p T : Int) (m : Nat) (hm : m = R.length) (hT : T = psum R (n - s - 1) m) : ∀ L : Nat,
    (∀ c : Nat, c < L → ∀ i : Nat, i < m → 0 ≤ p + (c : Int) * T + psum R (n - s - 1) (i + 1) ∧ p + (c : Int) * T + psum R (n - s - 1) (i + 1) ≤ s + (c : Int) * (m : Int) + (i : Int)) →
    lift R n (L * m) s p = p + (L : Int) * T
  | 0, _ => by rw [Nat.zero_mul, lift_zero]; omega
  | L + 1, h => by
    have e : (L + 1) * m = L * m + m := by rw [Nat.add_mul, Nat.one_mul]
    rw [e, lift_add, lift_leap R n s p T m hm hT L (fun c hc => h c (by omega))]
    have hL := h L (by omega)
    have ec : ((L * m : Nat) : Int) = (L : Int) * (m : Int) := Int.natCast_mul L m
    rw [ec]
    have ea : n - (s + (L : Int) * (m : Int)) - 1 = n - s - 1 - (L : Int) * (R.length : Int) := by rw [← hm]; omega
    rw [lift_straight]
    · rw [ea, psum_per, ← hT]
      have : ((L + 1 : Nat) : Int) * T = (L : Int) * T + T := by
        rw [Int.natCast_add, Int.add_mul]; simp
      omega
    · intro i hi
      rw [ea, psum_per]
      have := hL i hi
      omega

/-! ### a place beside the singer -/
/-- the place of b (on from 0, or back, below 0) when s are in -/
def pl (s b : Int) : Int := if b < 0 then s + b else b
/-- one step of does_stay -/
def st1 (b r : Int) : Int := b + r - (if b < 0 then 1 else 0)
def stays : List Int → Int → Int
  | [], b => b
  | r :: l, b => stays l (st1 b r)
/-- one step up at the singer's side -/
theorem step_side {s b r : Int} (hs : 60 < s) (hb : -50 ≤ b ∧ b ≤ 50) (hr : -5 ≤ r ∧ r ≤ 6) : (pl s b + r) % (s + 1) = pl (s + 1) (st1 b r) := by
  unfold pl st1
  by_cases h1 : b < 0
  · rw [if_pos h1, if_pos h1]
    by_cases h2 : b + r - 1 < 0
    · rw [if_pos h2]
      rw [Int.emod_eq_of_lt (by omega) (by omega)]
      omega
    · rw [if_neg h2]
      have e : s + b + r = (b + r - 1) + (s + 1) := by omega
      rw [e, Int.add_emod_right]
      exact Int.emod_eq_of_lt (by omega) (by omega)
  · rw [if_neg h1, if_neg h1]
    by_cases h2 : b + r - 0 < 0
    · rw [if_pos h2]
      have e : b + r = (b + r + (s + 1)) - (s + 1) := by omega
      rw [e, Int.sub_emod_right]
      rw [Int.emod_eq_of_lt (by omega) (by omega)]
      omega
    · rw [if_neg h2]
      rw [Int.emod_eq_of_lt (by omega) (by omega)]
      omega
/-- the rises from index a down -/
def rrow (R : List Int) (a : Int) : Nat → List Int
  | 0 => []
  | j + 1 => rI R a :: rrow R (a - 1) j
theorem lift_side (R : List Int) (n : Int) (hR : ∀ i, -5 ≤ rI R i ∧ rI R i ≤ 6) : ∀ (j : Nat) (s b : Int), 60 < s → -50 + 6 * (j : Int) ≤ b → b ≤ 50 - 6 * (j : Int) →
    lift R n j s (pl s b) = pl (s + (j : Int)) (stays (rrow R (n - s - 1) j) b)
  | 0, s, b, _, _, _ => by
    rw [lift_zero]
    show _ = pl _ b
    have e : s + ((0 : Nat) : Int) = s := by omega
    rw [e]
  | j + 1, s, b, hs, h1, h2 => by
    have hr := hR (n - s - 1)
    rw [lift_succ, step_side hs ⟨by omega, by omega⟩ hr]
    have hb : -6 ≤ st1 b (rI R (n - s - 1)) - b ∧ st1 b (rI R (n - s - 1)) - b ≤ 6 := by
      unfold st1; split <;> omega
    rw [lift_side R n hR j (s + 1) (st1 b (rI R (n - s - 1))) (by omega) (by omega) (by omega)]
    have e1 : s + 1 + (j : Int) = s + ((j + 1 : Nat) : Int) := by omega
    have e2 : n - (s + 1) - 1 = n - s - 1 - 1 := by omega
    rw [e1, e2]
    rfl
theorem rrow_per (R : List Int) (k : Int) : ∀ (j : Nat) (a : Int), rrow R (a - k * (R.length : Int)) j = rrow R a j
  | 0, _ => rfl
  | j + 1, a => by
    show rI R (a - k * (R.length : Int)) :: rrow R (a - k * (R.length : Int) - 1) j = rI R a :: rrow R (a - 1) j
    have e : a - k * (R.length : Int) - 1 = a - 1 - k * (R.length : Int) := by omega
    rw [e, rrow_per R k j, rI_perk]
/-- a place that stays through one rhyme stays through L -/
theorem lift_stay (R : List Int) (n s b : Int) (m : Nat) (hm : m = R.length) (hm4 : m ≤ 4) (hR : ∀ i, -5 ≤ rI R i ∧ rI R i ≤ 6) (hs : 60 < s) (hb : -26 ≤ b ∧ b ≤ 26) (hst : stays (rrow R (n - s - 1) m) b = b) : ∀ L : Nat,
    lift R n (L * m) s (pl s b) = pl (s + (L : Int) * (m : Int)) b
  | 0 => by
    rw [Nat.zero_mul, lift_zero]
    have e : s + ((0 : Nat) : Int) * (m : Int) = s := by simp
    rw [e]
  | L + 1 => by
    have e : (L + 1) * m = L * m + m := by rw [Nat.add_mul, Nat.one_mul]
    have ec : ((L * m : Nat) : Int) = (L : Int) * (m : Int) := Int.natCast_mul L m
    rw [e, lift_add, lift_stay R n s b m hm hm4 hR hs hb hst L, ec]
    have h0 : 0 ≤ (L : Int) * (m : Int) := by rw [← ec]; exact Int.natCast_nonneg _
    rw [lift_side R n hR m _ b (by omega) (by omega) (by omega)]
    have ea : n - (s + (L : Int) * (m : Int)) - 1 = n - s - 1 - (L : Int) * (R.length : Int) := by rw [← hm]; omega
    rw [ea, rrow_per, hst]
    have : ((L + 1 : Nat) : Int) * (m : Int) = (L : Int) * (m : Int) + (m : Int) := by
      rw [Int.natCast_add, Int.add_mul]; simp
    rw [this, Int.add_assoc]
end Rh
namespace Rh
/-! ### rows by counting -/
/-- where the next child stands in a row of s -/
def atR (r : Int) (s : Nat) : Nat := ((r - 1) % (s : Int)).toNat
/-- the row on from behind that place -/
def cut {α : Type} (row : List α) (a : Nat) : List α := row.drop (a + 1) ++ row.take a
/-- those who went, those who are in, behind j turns -/
def st (R : List Int) (n : Nat) : Nat → List Int × List Int
  | 0 => ([], (List.range n).map fun (i : Nat) => (i : Int))
  | j + 1 => ((st R n j).1 ++ [(st R n j).2.getD (atR (rI R j) (st R n j).2.length) 0], cut (st R n j).2 (atR (rI R j) (st R n j).2.length))
theorem atR_lt {r : Int} {s : Nat} (h : 0 < s) : atR r s < s := by
  unfold atR
  have h1 := Int.emod_nonneg (r - 1) (show (s : Int) ≠ 0 by omega)
  have h2 := Int.emod_lt_of_pos (r - 1) (show (0 : Int) < (s : Int) by omega)
  omega
theorem cut_length {α : Type} {row : List α} {a : Nat} (h : a < row.length) : (cut row a).length = row.length - 1 := by
  unfold cut
  rw [List.length_append, List.length_drop, List.length_take]
  omega
theorem st_len (R : List Int) (n : Nat) : ∀ j : Nat, j ≤ n → (st R n j).2.length = n - j
  | 0, _ => by show ((List.range n).map _).length = n - 0; simp
  | j + 1, h => by
    have ih := st_len R n j (by omega)
    show (cut _ _).length = _
    rw [cut_length (atR_lt (by omega)), ih]
    omega
theorem st_len1 (R : List Int) (n : Nat) : ∀ j : Nat, (st R n j).1.length = j
  | 0 => rfl
  | j + 1 => by
    show (_ ++ [_]).length = _
    rw [List.length_append, st_len1 R n j]
    rfl
/-- the place q of the row behind was the place q + r ahead -/
theorem cut_get {row : List Int} {r : Int} {q : Nat} (hq : q + 1 < row.length) : (cut row (atR r row.length)).getD q 0 = row.getD (((q : Int) + r) % (row.length : Int)).toNat 0 := by
  have hs : 0 < row.length := by omega
  have ha : atR r row.length < row.length := atR_lt hs
  have hae : ((atR r row.length : Nat) : Int) = (r - 1) % (row.length : Int) := by
    unfold atR
    exact Int.toNat_of_nonneg (Int.emod_nonneg _ (by omega))
  generalize hA : atR r row.length = a at *
  have key : ((q : Int) + r) % (row.length : Int) = ((q : Int) + 1 + (a : Int)) % (row.length : Int) := by
    rw [hae, Int.add_emod_emod]
    congr 1
    omega
  rw [key]
  unfold cut
  by_cases h : q < row.length - (a + 1)
  · rw [Int.emod_eq_of_lt (by omega) (by omega)]
    have e : ((q : Int) + 1 + (a : Int)).toNat = a + 1 + q := by omega
    rw [e, List.getD_eq_getElem?_getD, List.getD_eq_getElem?_getD, List.getElem?_append_left (by rw [List.length_drop]; exact h), List.getElem?_drop]
  · have e0 : (q : Int) + 1 + (a : Int) = ((q : Int) + 1 + (a : Int) - (row.length : Int)) + (row.length : Int) := by omega
    rw [e0, Int.add_emod_right, Int.emod_eq_of_lt (by omega) (by omega)]
    rw [List.getD_eq_getElem?_getD, List.getD_eq_getElem?_getD, List.getElem?_append_right (by rw [List.length_drop]; omega), List.length_drop, List.getElem?_take, if_pos (by omega)]
    congr 2
    omega
/-- the row behind j turns, by lifting -/
theorem st_get (R : List Int) (n : Nat) : ∀ (j q : Nat), j ≤ n → q < n - j → (st R n j).2.getD q 0 = lift R n j ((n : Int) - (j : Int)) (q : Int)
  | 0, q, _, h => by
    rw [lift_zero]
    show ((List.range n).map fun (i : Nat) => (i : Int)).getD q 0 = _
    rw [List.getD_eq_getElem?_getD, List.getElem?_map, List.getElem?_range (by omega)]
    rfl
  | j + 1, q, hj, h => by
    show (cut _ _).getD q 0 = _
    have hl := st_len R n j (by omega)
    rw [cut_get (by omega), hl, lift_succ]
    have e1 : (n : Int) - ((j + 1 : Nat) : Int) + 1 = (n : Int) - (j : Int) := by omega
    have e2 : (n : Int) - ((n : Int) - ((j + 1 : Nat) : Int)) - 1 = (j : Int) := by omega
    have e3 : (((n - j : Nat) : Nat) : Int) = (n : Int) - (j : Int) := by omega
    rw [e1, e2, e3]
    have h1 := Int.emod_nonneg ((q : Int) + rI R j) (show (n : Int) - (j : Int) ≠ 0 by omega)
    have h2 := Int.emod_lt_of_pos ((q : Int) + rI R j) (show (0 : Int) < (n : Int) - (j : Int) by omega)
    rw [st_get R n j _ (by omega) (by omega)]
    have e4 : ((((q : Int) + rI R j) % ((n : Int) - (j : Int))).toNat : Int) = ((q : Int) + rI R j) % ((n : Int) - (j : Int)) := Int.toNat_of_nonneg h1
    rw [e4]
/-- who goes as the turn-th, counted from 1 -/
def goneF (R : List Int) (n t : Int) : Int := lift R n (t - 1).toNat (n - t + 1) ((n - t + rI R (t - 1)) % (n - t + 1))
theorem st_snoc1 (R : List Int) (n j : Nat) (h : j < n) : (st R n (j + 1)).1 = (st R n j).1 ++ [goneF R n ((j : Int) + 1)] := by
  show _ ++ [_] = _ ++ [_]
  have hl := st_len R n j (by omega)
  have ha : atR (rI R j) (n - j) < n - j := atR_lt (by omega)
  rw [hl, st_get R n j _ (by omega) ha]
  unfold goneF
  have e1 : ((j : Int) + 1 - 1).toNat = j := by omega
  have e2 : (n : Int) - ((j : Int) + 1) + 1 = (n : Int) - (j : Int) := by omega
  have e3 : (j : Int) + 1 - 1 = (j : Int) := by omega
  rw [e1, e2, e3]
  have e4 : ((atR (rI R j) (n - j) : Nat) : Int) = ((n : Int) - ((j : Int) + 1) + rI R j) % ((n : Int) - (j : Int)) := by
    unfold atR
    rw [Int.toNat_of_nonneg (Int.emod_nonneg _ (by omega))]
    have e5 : (((n - j : Nat) : Nat) : Int) = (n : Int) - (j : Int) := by omega
    rw [e5]
    have e6 : (n : Int) - ((j : Int) + 1) + rI R j = (rI R j - 1) + ((n : Int) - (j : Int)) := by omega
    rw [e6, Int.add_emod_right]
  rw [e4]
/-- the first j who go -/
def goneL (R : List Int) (n : Int) (j : Nat) : List Int := (List.range j).map fun (i : Nat) => goneF R n ((i : Int) + 1)
theorem st_fst (R : List Int) (n : Nat) : ∀ j : Nat, j ≤ n → (st R n j).1 = goneL R n j
  | 0, _ => rfl
  | j + 1, h => by
    rw [st_snoc1 R n j (by omega), st_fst R n j (by omega)]
    unfold goneL
    rw [List.range_succ, List.map_append]
    rfl
/-- those who are in behind j turns, on from the singer -/
def rowL (R : List Int) (n : Int) (s : Nat) : List Int := (List.range s).map fun (q : Nat) => lift R n (n - s).toNat s (q : Int)
theorem st_snd (R : List Int) (n j : Nat) (h : j ≤ n) : (st R n j).2 = rowL R n (n - j) := by
  have hl := st_len R n j h
  refine List.ext_getElem? fun q => ?_
  unfold rowL
  by_cases hq : q < n - j
  · have h1 := st_get R n j q h hq
    rw [List.getD_eq_getElem?_getD] at h1
    rw [List.getElem?_map, List.getElem?_range hq]
    have h2 : q < (st R n j).2.length := by omega
    rw [List.getElem?_eq_getElem h2] at h1 ⊢
    have h3 : ((n : Int) - ((n - j : Nat) : Int)).toNat = j := by omega
    have h4 : ((n - j : Nat) : Int) = (n : Int) - (j : Int) := by omega
    show some _ = some _
    rw [h3, h4]
    exact congrArg some h1
  · rw [List.getElem?_eq_none_iff.mpr (by omega), List.getElem?_eq_none_iff.mpr (by simp; omega)]
theorem cut_perm {α : Type} {row : List α} {a : Nat} {x : α} (h : row[a]? = some x) : (x :: cut row a).Perm row := by
  unfold cut
  obtain ⟨ha, hx⟩ := List.getElem?_eq_some_iff.mp h
  have e : row = row.take a ++ (x :: row.drop (a + 1)) := by
    rw [← hx, ← List.drop_eq_getElem_cons ha, List.take_append_drop]
  have p1 : (x :: (row.drop (a + 1) ++ row.take a)).Perm (row.take a ++ (x :: row.drop (a + 1))) :=
    (List.perm_append_comm (l₁ := x :: row.drop (a + 1)) (l₂ := row.take a))
  exact p1.trans (by rw [← e])
theorem st_perm (R : List Int) (n : Nat) : ∀ j : Nat, j ≤ n → ((st R n j).1 ++ (st R n j).2).Perm ((List.range n).map fun (i : Nat) => (i : Int))
  | 0, _ => List.Perm.refl _
  | j + 1, h => by
    have ih := st_perm R n j (by omega)
    have hl := st_len R n j (by omega)
    have ha : atR (rI R j) (st R n j).2.length < (st R n j).2.length := atR_lt (by omega)
    show ((_ ++ [_]) ++ cut _ _).Perm _
    have e : (st R n j).2[atR (rI R j) (st R n j).2.length]? = some ((st R n j).2.getD (atR (rI R j) (st R n j).2.length) 0) := by
      rw [List.getD_eq_getElem?_getD, List.getElem?_eq_getElem ha]; rfl
    have p := cut_perm e
    refine List.Perm.trans ?_ ih
    rw [List.append_assoc]
    exact List.Perm.append_left _ p
end Rh
namespace Rh
/-! ### how far a place goes straight -/
def timesAbove (room more : Int) : Option Int := if room < 0 then some 0 else if 0 ≤ more then none else some (room / (-more) + 1)
def leastOf (l : List (Option Int)) : Option Int := (l.filterMap id).min?
/-- o tells how long p holds -/
def Told (o : Option Int) (p : Int → Prop) : Prop := (o = none → ∀ c, 0 ≤ c → p c) ∧ ∀ L, o = some L → 0 ≤ L ∧ (∀ c, 0 ≤ c → c < L → p c) ∧ ¬ p L
theorem told_above (room more : Int) : Told (timesAbove room more) (fun c => 0 ≤ room + c * more) := by
  unfold timesAbove
  by_cases h1 : room < 0
  · rw [if_pos h1]
    refine ⟨fun e => (nomatch e), fun L e => ?_⟩
    cases e
    exact ⟨Int.le_refl 0, fun c h0 h => by omega, by show ¬ (0 ≤ room + 0 * more); rw [Int.zero_mul]; omega⟩
  · rw [if_neg h1]
    by_cases h2 : 0 ≤ more
    · rw [if_pos h2]
      refine ⟨fun _ c hc => ?_, fun L e => nomatch e⟩
      have := Int.mul_nonneg hc h2
      omega
    · rw [if_neg h2]
      refine ⟨fun e => (nomatch e), fun L e => ?_⟩
      have e2 : room / (-more) + 1 = L := Option.some.inj e
      subst e2
      have hd : 0 < -more := by omega
      have q0 : 0 ≤ room / (-more) := Int.ediv_nonneg (by omega) (by omega)
      have q1 : room / (-more) * (-more) ≤ room := Int.ediv_mul_le room (by omega)
      have q2 : room < (room / (-more) + 1) * (-more) := Int.lt_ediv_add_one_mul_self room hd
      refine ⟨by omega, fun c h0 h => ?_, ?_⟩
      · have : c * (-more) ≤ room / (-more) * (-more) := Int.mul_le_mul_of_nonneg_right (by omega) (by omega)
        have e3 : c * -more = -(c * more) := Int.mul_neg c more
        omega
      · have e3 : (room / (-more) + 1) * -more = -((room / (-more) + 1) * more) := Int.mul_neg _ more
        omega
theorem told_imp {o : Option Int} {p q : Int → Prop} (h : ∀ c, p c ↔ q c) (t : Told o p) : Told o q :=
  ⟨fun e c hc => (h c).mp (t.1 e c hc), fun L e => ⟨(t.2 L e).1, fun c h0 hl => (h c).mp ((t.2 L e).2.1 c h0 hl), fun z => (t.2 L e).2.2 ((h L).mpr z)⟩⟩
/-- two answers an index -/
def optL (f g : Nat → Option Int) (n : Nat) : List (Option Int) := (List.range n).flatMap fun i => [f i, g i]
theorem optL_succ (f g : Nat → Option Int) (n : Nat) : optL f g (n + 1) = optL f g n ++ [f n, g n] := by
  unfold optL
  rw [List.range_succ, List.flatMap_append]
  simp
theorem least_told {f g : Nat → Option Int} {p q : Nat → Int → Prop} {n : Nat} (hf : ∀ i, i < n → Told (f i) (p i)) (hg : ∀ i, i < n → Told (g i) (q i)) :
    Told (leastOf (optL f g n)) (fun c => ∀ i, i < n → p i c ∧ q i c) := by
  have mem : ∀ x, some x ∈ optL f g n → ∃ i, i < n ∧ (f i = some x ∨ g i = some x) := fun x hx => by
    unfold optL at hx
    obtain ⟨i, hi, hx⟩ := List.mem_flatMap.mp hx
    refine ⟨i, List.mem_range.mp hi, ?_⟩
    rcases List.mem_cons.mp hx with h | h
    · exact .inl h.symm
    · exact .inr (List.mem_singleton.mp h).symm
  have memf : ∀ i, i < n → f i ∈ optL f g n := fun i hi => List.mem_flatMap.mpr ⟨i, List.mem_range.mpr hi, List.mem_cons_self ..⟩
  have memg : ∀ i, i < n → g i ∈ optL f g n := fun i hi => List.mem_flatMap.mpr ⟨i, List.mem_range.mpr hi, List.mem_cons_of_mem _ (List.mem_cons_self ..)⟩
  have memN : ∀ x, x ∈ (optL f g n).filterMap id ↔ some x ∈ optL f g n := fun x => by
    rw [List.mem_filterMap]
    exact ⟨fun ⟨a, ha, e⟩ => by
      have e2 : a = some x := e
      rwa [e2] at ha, fun h => ⟨_, h, rfl⟩⟩
  refine ⟨fun e c hc i hi => ?_, fun L e => ?_⟩
  · have en : (optL f g n).filterMap id = [] := List.min?_eq_none_iff.mp e
    have nf : ∀ o, o ∈ optL f g n → o = none := fun o ho => by
      cases o with
      | none => rfl
      | some x =>
        have := (memN x).mpr ho
        rw [en] at this
        cases this
    exact ⟨(hf i hi).1 (nf _ (memf i hi)) c hc, (hg i hi).1 (nf _ (memg i hi)) c hc⟩
  · have e2 : ((optL f g n).filterMap id).min? = some L := e
    have hm := List.min?_eq_some_iff.mp e2
    obtain ⟨hL, hle⟩ := hm
    obtain ⟨i, hi, hfg⟩ := mem L ((memN L).mp hL)
    refine ⟨?_, fun c h0 hc j hj => ⟨?_, ?_⟩, fun z => ?_⟩
    · rcases hfg with h | h
      · exact ((hf i hi).2 L h).1
      · exact ((hg i hi).2 L h).1
    · cases q1 : f j with
      | none => exact (hf j hj).1 q1 c h0
      | some x =>
        have := hle x ((memN x).mpr (by rw [← q1]; exact memf j hj))
        exact ((hf j hj).2 x q1).2.1 c h0 (by omega)
    · cases q1 : g j with
      | none => exact (hg j hj).1 q1 c h0
      | some x =>
        have := hle x ((memN x).mpr (by rw [← q1]; exact memg j hj))
        exact ((hg j hj).2 x q1).2.1 c h0 (by omega)
    · rcases hfg with h | h
      · exact ((hf i hi).2 L h).2.2 (z i hi).1
      · exact ((hg i hi).2 L h).2.2 (z i hi).2
/-- the place goes up straight through the c-th rhyme -/
def Up (place size : Int) (sums : List Int) (c : Int) : Prop := ∀ i : Nat, i < sums.length →
  0 ≤ place + c * sums.getD (sums.length - 1) 0 + sums.getD i 0 ∧ place + c * sums.getD (sums.length - 1) 0 + sums.getD i 0 ≤ size + c * (sums.length : Int) + (i : Int)
def climbsF (place size : Int) (sums : List Int) : Option Int := leastOf (optL (fun i => timesAbove (place + sums.getD i 0) (sums.getD (sums.length - 1) 0))
  (fun i => timesAbove (size + (i : Int) - place - sums.getD i 0) ((sums.length : Int) - sums.getD (sums.length - 1) 0)) sums.length)
theorem climbs_told (place size : Int) (sums : List Int) : Told (climbsF place size sums) (Up place size sums) := by
  have t := least_told (n := sums.length) (fun i _ => told_above (place + sums.getD i 0) (sums.getD (sums.length - 1) 0)) (fun i _ => told_above (size + (i : Int) - place - sums.getD i 0) ((sums.length : Int) - sums.getD (sums.length - 1) 0))
  refine told_imp (fun c => ?_) t
  refine forall_congr' fun i => imp_congr_right fun hi => ?_
  rw [Int.mul_sub]
  exact ⟨fun ⟨h1, h2⟩ => ⟨by omega, by omega⟩, fun ⟨h1, h2⟩ => ⟨by omega, by omega⟩⟩
/-- .. down -/
def Dn (place size : Int) (sums : List Int) (c : Int) : Prop := ∀ i : Nat, i < sums.length →
  0 ≤ place - c * sums.getD (sums.length - 1) 0 - sums.getD i 0 ∧ place - c * sums.getD (sums.length - 1) 0 - sums.getD i 0 ≤ size - c * (sums.length : Int) - (i : Int) - 2
def fallsF (place size : Int) (sums : List Int) : Option Int := leastOf (optL (fun i => timesAbove (place - sums.getD i 0) (-(sums.getD (sums.length - 1) 0)))
  (fun i => timesAbove (size - (i : Int) - 2 - place + sums.getD i 0) (sums.getD (sums.length - 1) 0 - (sums.length : Int))) sums.length)
theorem falls_told (place size : Int) (sums : List Int) : Told (fallsF place size sums) (Dn place size sums) := by
  have t := least_told (n := sums.length) (fun i _ => told_above (place - sums.getD i 0) (-(sums.getD (sums.length - 1) 0))) (fun i _ => told_above (size - (i : Int) - 2 - place + sums.getD i 0) (sums.getD (sums.length - 1) 0 - (sums.length : Int)))
  refine told_imp (fun c => ?_) t
  refine forall_congr' fun i => imp_congr_right fun hi => ?_
  rw [Int.mul_sub, Int.mul_neg]
  exact ⟨fun ⟨h1, h2⟩ => ⟨by omega, by omega⟩, fun ⟨h1, h2⟩ => ⟨by omega, by omega⟩⟩
end Rh
namespace Z
open PySem PySem.Spec PyProof.Rows L2
local macro_rules | `(tactic| walk_at "look") => `(tactic| first | assumption | exact upd_same | exact SqL.of (by assumption) | exact SqT.of (by assumption) | exact SqL.of upd_same | exact SqT.of upd_same)
local macro_rules | `(tactic| walk_at "at") => `(tactic| first | exact at0 | exact at1 | exact at2 | exact at3 | exact ix0 | exact ix1 | assumption | exact atI_nat (by rfl))
local macro_rules | `(tactic| walk_at "sd") => `(tactic| ((try dsimp only); first | assumption | omega | (unfold CMul; omega) | (unfold CDiv; omega) | (unfold CPow; decide) | decide))
local macro_rules | `(tactic| walk_at "st") => `(tactic| first
  | (refine ⟨_, rfl, ?_⟩)
  | (refine ⟨_, _, rfl, rfl, ?_⟩)
  | (refine ⟨rfl, ?_⟩)
  | (refine .inl ⟨_, rfl, ?_⟩)
  | (refine ⟨_, _, _, _, rfl, rfl, (by walk_at "look"), (by walk_at "at"), ?_⟩)
  | (refine ⟨_, _, rfl, .inl (by walk_at "look"), ?_⟩)
  | (refine And.intro (by walk_at "sd") ?_)
  | fail "no step")
local macro_rules | `(tactic| walk_at "go") => `(tactic| repeat' (walk_at "st"))
local macro_rules | `(tactic| walk_at "ans") => `(tactic| (intro Q q; (repeat' (walk_at "st")); exact q))

abbrev cMin2 : RL := fun xs H Q => ∃ i j, xs = [.int i, .int j] ∧ Q (.int (if j < i then j else i)) H
abbrev cMax2 : RL := fun xs H Q => ∃ i j, xs = [.int i, .int j] ∧ Q (.int (if j > i then j else i)) H
/-- an answer or none -/
def oV : Option Int → V
  | none => .non
  | some i => .int i
theorem oV_none (o : Option Int) : decide (oV o = .non) = o.isNone := by
  cases o with
  | none => exact decide_eq_true rfl
  | some i => exact decide_eq_false fun z => by cases z
/-! ### sums_of -/
def sumsL (l : List Int) : List Int := (List.range l.length).map fun i => (l.take (i + 1)).sum
theorem sumsL_len (l : List Int) : (sumsL l).length = l.length := by
  unfold sumsL
  rw [List.length_map, List.length_range]
@[irreducible] def sp_sums_of (K : PySem.W.Frag) : Sp := fun ws H Q _ => ∃ (a : Addr) (l : List Int), ws = [.ref a] ∧ SqL K H a (l.map V.int) ∧ l.length ≤ 100 ∧
  ∀ (p : Addr) (H' : Hp), H p = none → Ex H H' → H' p = some (.lst ((sumsL l).map V.int)) → Q (.ref p) H'
def t_sums_of_2a_1 (K : PySem.W.Frag) (E : XK) : TS := (tDrop (tBM K "list" rAppend (tVar 1) (tCons (tVar 2) tNil)))

def t_sums_of_2a_0 (K : PySem.W.Frag) (E : XK) : TS := tSeq (tAug 2 (tVar 3) (ipI fun i j => i + j)) (t_sums_of_2a_1 K E)

def t_sums_of_3 (K : PySem.W.Frag) (E : XK) : TS := (tRet (tVar 1))

@[irreducible] def t_sums_of_2 (K : PySem.W.Frag) (E : XK) : TS := tSeq (tFor (iList K (tVar 0)) (gName 3)
    (t_sums_of_2a_0 K E)) (t_sums_of_3 K E)

def t_sums_of_1 (K : PySem.W.Frag) (E : XK) : TS := tSeq (tAsg (tC (.int 0)) (gName 2)) (t_sums_of_2 K E)

def t_sums_of_0 (K : PySem.W.Frag) (E : XK) : TS := tSeq (tAsg (tLst tNil) (gName 1)) (t_sums_of_1 K E)

theorem take_sum {l : List Int} {i : Nat} {x : Int} (h : l[i]? = some x) : (l.take (i + 1)).sum = (l.take i).sum + x := by
  rw [List.take_succ, h, List.sum_append]
  simp
theorem pure_sums_of {K : PySem.W.Frag} (ws : List V) (H : Hp) (Q : VK) (E : XK) (h : sp_sums_of K ws H Q E) : t_sums_of_0 K E { nx := fun _ H' => Q .non H', rt := Q } (start ["row", "found", "total", "number"] ws) H := by
  unfold sp_sums_of at h
  obtain ⟨a, l, rfl, hS, hl, k⟩ := h
  show t_sums_of_0 K E _ [some (.ref a), none, none, none] H
  refine ⟨Nat.zero_le _, fun p hp => ?_⟩
  show t_sums_of_2 K E _ [some (.ref a), some (.ref p), some (.int 0), none] _
  have e1 := ex_new (o := .lst []) hp
  unfold t_sums_of_2
  refine ⟨_, rfl, a, rfl, ⟨_, sq_ex e1 hS⟩, for_it walk_list (fun i σ H' => Ex H H' ∧ H' p = some (.lst ((List.range i).map fun j => V.int (l.take (j + 1)).sum)) ∧ ∃ u, σ = [some (.ref a), some (.ref p), some (.int (l.take i).sum), u]) ⟨e1, upd_same, none, rfl⟩ (fun i σ H' _ h => sq_ex h.1 hS) ?_ ?_⟩
  · rintro i x σ H1 H2 hi ⟨e, hp1, u, rfl⟩ ⟨rfl, hx⟩
    rw [List.getElem?_map] at hx
    cases hy : l[i]? with
    | none =>
      rw [hy] at hx
      cases hx
    | some y =>
      rw [hy] at hx
      have ex : V.int y = x := Option.some.inj hx
      subst ex
      rw [List.length_map] at hi
      refine ⟨_, rfl, _, rfl, _, _, rfl, rfl, _, rfl, .inl ⟨rfl, _, SqL.of hp1⟩, _, rfl, p, _, _, rfl, rfl, hp1, ?_, ?_⟩
      · rw [List.length_map, List.length_range]
        exact Nat.lt_of_lt_of_le hi (Nat.le_trans hl (by decide))
      · refine ⟨ex_mut e hp, ?_, _, by rw [take_sum hy]; rfl⟩
        rw [upd_same, List.range_succ, List.map_append]
        show some (HO.lst (_ ++ [V.int ((l.take i).sum + y)])) = some (HO.lst (_ ++ [V.int (l.take (i + 1)).sum]))
        rw [take_sum hy]
  · rintro σ H1 ⟨e, hp1, u, rfl⟩
    refine ⟨_, rfl, k p H1 hp e ?_⟩
    rw [hp1, List.length_map]
    unfold sumsL
    rw [List.map_map]
    rfl
/-! ### times_above, least_of -/
@[irreducible] def sp_times_above (K : PySem.W.Frag) : Sp := fun ws H Q _ => ∃ room more : Int, ws = [.int room, .int more] ∧ -1000 ≤ more ∧ Q (oV (Rh.timesAbove room more)) H
def t_times_above_0a_0 (K : PySem.W.Frag) (E : XK) : TS := (tRet (tC (.int 0)))

def t_times_above_1 (K : PySem.W.Frag) (E : XK) : TS := (tRet (tIf (tTest (tOp oGe (tVar 1) (tC (.int 0)))) (tC .non) (tOp oAdd (tOp oFdv (tVar 0) (tUn oNeg (tVar 1))) (tC (.int 1)))))

@[irreducible] def t_times_above_0 (K : PySem.W.Frag) (E : XK) : TS := tSeq (tIfS (tTest (tOp oLt (tVar 0) (tC (.int 0))))
    (t_times_above_0a_0 K E) tNext) (t_times_above_1 K E)

theorem pure_times_above {K : PySem.W.Frag} (ws : List V) (H : Hp) (Q : VK) (E : XK) (h : sp_times_above K ws H Q E) : t_times_above_0 K E { nx := fun _ H' => Q .non H', rt := Q } (start ["room", "more"] ws) H := by
  unfold sp_times_above at h
  obtain ⟨room, more, rfl, hm, k⟩ := h
  show t_times_above_0 K E _ [some (.int room), some (.int more)] H
  unfold t_times_above_0
  unfold Rh.timesAbove at k
  refine if_go (decide (room < 0)) (by walk_at "ans") (fun c => ?_) (fun c => ?_)
  · rw [if_pos (of_decide_eq_true c)] at k
    exact k
  · rw [if_neg (of_decide_eq_false c)] at k
    refine ⟨_, rfl, _, _, rfl, rfl, _, rfl, ?_⟩
    by_cases h2 : 0 ≤ more
    · rw [if_pos h2] at k
      exact iteT' (decide_eq_true h2) k
    · rw [if_neg h2] at k
      refine iteF' (decide_eq_false h2) ?_
      refine ⟨_, rfl, _, rfl, _, rfl, _, _, rfl, rfl, ⟨by omega, by omega⟩, _, _, rfl, rfl, k⟩
@[irreducible] def sp_least_of (K : PySem.W.Frag) : Sp := fun ws H Q _ => ∃ (a : Addr) (l : List (Option Int)), ws = [.ref a] ∧ SqL K H a (l.map oV) ∧ l.length ≤ 100 ∧ ∀ H', Ex H H' → Q (oV (Rh.leastOf l)) H'
def t_least_of_1 (K : PySem.W.Frag) (E : XK) : TS := (tRet (tIf (tTest (tOp (rNeD K) (tVar 1) (tLst tNil))) (tCB (rMin K) (tCons (tVar 1) tNil)) (tC .non)))

def t_least_of_0 (K : PySem.W.Frag) (E : XK) : TS := tSeq (tAsg (tLc (iList K (tVar 0)) (gName 2) (tTest (tOp oNotN (tVar 2) (tC .non))) (tVar 2) [2]) (gName 1)) (t_least_of_1 K E)

theorem getD_some {α : Type} {l : List α} {i : Nat} {x d : α} (h : l[i]? = some x) : l.getD i d = x := by
  rw [List.getD_eq_getElem?_getD, h]
  rfl
theorem filt_opt (l : List (Option Int)) : ((List.range l.length).filter fun i => (l.getD i none).isSome).map (fun i => oV (l.getD i none)) = (l.filterMap id).map V.int := by
  have e : ((List.range l.length).filter fun i => (l.getD i none).isSome).map (fun i => l.getD i none) = l.filter Option.isSome := by
    have := List.filter_map (f := fun i => l.getD i none) (p := Option.isSome) (l := List.range l.length)
    have m : (List.range l.length).map (fun i => l.getD i none) = l := by
      have := map_range_get l id none (n := l.length) rfl
      rw [List.map_id] at this
      exact this
    rw [m] at this
    exact this.symm
  have e2 : ((List.range l.length).filter fun i => (l.getD i none).isSome).map (fun i => oV (l.getD i none)) = (l.filter Option.isSome).map oV := by
    rw [← e, List.map_map]
    rfl
  rw [e2]
  clear e e2
  induction l with
  | nil => rfl
  | cons o l ih =>
    cases o with
    | none =>
      rw [List.filter_cons_of_neg (by simp)]
      exact ih
    | some i =>
      rw [List.filter_cons_of_pos rfl]
      show V.int i :: _ = V.int i :: _
      rw [ih]
theorem eqv_nil : ∀ ns : List Int, PyData.eqv (.list (ns.map PyData.int)) (.list []) = decide (ns = [])
  | [] => rfl
  | _ :: _ => rfl
theorem lay_ints : ∀ ns : List Int, PyData.canLayAll0 (ns.map PyData.int) = true ∧ PyData.depthAll (ns.map PyData.int) = 0
  | [] => ⟨rfl, rfl⟩
  | n :: ns => by
    obtain ⟨h1, h2⟩ := lay_ints ns
    constructor
    · show (PyData.canLay0 (.int n) && PyData.canLayAll0 (ns.map PyData.int)) = true
      rw [h1]
      rfl
    · show max (PyData.depth (.int n)) (PyData.depthAll (ns.map PyData.int)) = 0
      rw [h2]
      rfl
theorem shaped_ints (ns : List Int) : SeqAt.shaped (.list (ns.map PyData.int)) = true := by
  obtain ⟨h1, h2⟩ := lay_ints ns
  show (PyData.canLayAll0 (ns.map PyData.int) && decide (PyData.depthAll (ns.map PyData.int) + 1 ≤ 64)) = true
  rw [h1, h2]
  rfl
theorem pure_least_of {K : PySem.W.Frag} (ws : List V) (H : Hp) (Q : VK) (E : XK) (h : sp_least_of K ws H Q E) : t_least_of_0 K E { nx := fun _ H' => Q .non H', rt := Q } (start ["some", "found", "number"] ws) H := by
  unfold sp_least_of at h
  obtain ⟨a, l, rfl, hS, hl, k⟩ := h
  show t_least_of_0 K E _ [some (.ref a), none, none] H
  have hll : (l.map oV).length = l.length := List.length_map ..
  have h100 : l.length < sizeLine := Nat.lt_of_le_of_lt hl (by decide)
  refine ⟨_, rfl, a, rfl, ⟨_, hS⟩, fun p hp => lc_pure walk_list (fun i => (l.getD i none).isSome) (fun i => oV (l.getD i none)) hp (by rw [hll]; exact h100) (fun H3 e => sq_ex e hS) ?_ ?_⟩
  · rintro i x H3 H4 hi e ⟨rfl, hx⟩ Q Zf q1 q2
    rw [List.getElem?_map] at hx
    cases hy : l[i]? with
    | none =>
      rw [hy] at hx
      cases hx
    | some y =>
      rw [hy] at hx
      have ex : oV y = x := Option.some.inj hx
      subst ex
      rw [getD_some hy] at q1 q2
      refine ⟨rfl, ?_⟩
      refine ⟨_, rfl, rfl, _, rfl, ?_⟩
      rw [oV_none]
      cases y with
      | none => exact iteF (q2 rfl _ (ex_refl _))
      | some z => exact iteT ⟨_, rfl, q1 rfl _ (ex_refl _)⟩
  · intro H3 e h3
    rw [hll, filt_opt] at h3
    show t_least_of_1 K E _ [some (.ref a), some (.ref p), none] H3
    refine ⟨_, rfl, Nat.zero_le _, fun z hz => ?_⟩
    have e4 := ex_new (o := .lst []) hz
    refine ⟨_, _, .lst (SqL.of (e4 _ _ h3)) (dpa_ints (l.filterMap id)), .lst (SqL.of upd_same) .nil, shaped_ints _, rfl, _, rfl, ?_⟩
    rw [eqv_nil]
    unfold Rh.leastOf at k
    by_cases hn : l.filterMap id = []
    · rw [decide_eq_true hn]
      rw [hn] at k
      exact iteF (k _ (ex_trans e e4))
    · rw [decide_eq_false hn]
      refine iteT ⟨_, rfl, p, _, rfl, SqL.of (e4 _ _ h3), List.length_pos_iff.mpr hn, fun m hm hle => ?_⟩
      have hmin : (l.filterMap id).min? = some m := List.min?_eq_some_iff.mpr ⟨hm, fun b hb => hle b hb⟩
      rw [hmin] at k
      exact k _ (ex_trans e e4)
/-! ### climbs, falls -/
@[irreducible] def sp_climbs (K : PySem.W.Frag) : Sp := fun ws H Q _ => ∃ (place size : Int) (a : Addr) (sums : List Int), ws = [.int place, .int size, .ref a] ∧ SqL K H a (sums.map V.int) ∧ 1 ≤ sums.length ∧ sums.length ≤ 4 ∧
  -500 ≤ sums.getD (sums.length - 1) 0 ∧ sums.getD (sums.length - 1) 0 ≤ 500 ∧ ∀ H', Ex H H' → Q (oV (Rh.climbsF place size sums)) H'
@[irreducible] def sp_falls (K : PySem.W.Frag) : Sp := fun ws H Q _ => ∃ (place size : Int) (a : Addr) (sums : List Int), ws = [.int place, .int size, .ref a] ∧ SqL K H a (sums.map V.int) ∧ 1 ≤ sums.length ∧ sums.length ≤ 4 ∧
  -500 ≤ sums.getD (sums.length - 1) 0 ∧ sums.getD (sums.length - 1) 0 ≤ 500 ∧ ∀ H', Ex H H' → Q (oV (Rh.fallsF place size sums)) H'
theorem last_at {xs : List Int} (h : 1 ≤ xs.length) : atI (xs.map V.int) (-1) = some (.int (xs.getD (xs.length - 1) 0)) := by
  unfold atI ixN
  rw [if_neg (by omega), List.length_map, if_pos (by omega)]
  show (xs.map V.int)[(-1 + (xs.length : Int)).toNat]? = _
  have e : (-1 + (xs.length : Int)).toNat = xs.length - 1 := by omega
  rw [e, List.getElem?_map, List.getElem?_eq_getElem (by omega), List.getD_eq_getElem?_getD, List.getElem?_eq_getElem (by omega)]
  rfl
theorem optL_len (f g : Nat → Option Int) : ∀ n, (Rh.optL f g n).length = 2 * n
  | 0 => rfl
  | n + 1 => by
    rw [Rh.optL_succ, List.length_append, optL_len f g n]
    rfl
def t_climbs_2a_1 (K : PySem.W.Frag) (E : XK) : TS := (tDrop (tBM K "list" rAppend (tVar 5) (tCons (tCall (sp_times_above K) [] E0 (tCons (tOp oSub (tOp oSub (tOp oAdd (tVar 1) (tVar 6)) (tVar 0)) (tVar 7)) (tCons (tOp oSub (tVar 3) (tVar 4)) tNil))) tNil)))

def t_climbs_2a_0 (K : PySem.W.Frag) (E : XK) : TS := tSeq (tDrop (tBM K "list" rAppend (tVar 5) (tCons (tCall (sp_times_above K) [] E0 (tCons (tOp oAdd (tVar 0) (tVar 7)) (tCons (tVar 4) tNil))) tNil))) (t_climbs_2a_1 K E)

def t_climbs_3 (K : PySem.W.Frag) (E : XK) : TS := (tRet (tCall (sp_least_of K) [] E0 (tCons (tVar 5) tNil)))

@[irreducible] def t_climbs_2 (K : PySem.W.Frag) (E : XK) : TS := tSeq (tFor (iEnum K (tCons (tVar 2) tNil)) (gTup K 2 (gCons (gName 6) (gCons (gName 7) gNil)))
    (t_climbs_2a_0 K E)) (t_climbs_3 K E)

def t_climbs_1 (K : PySem.W.Frag) (E : XK) : TS := tSeq (tAsg (tLst tNil) (gName 5)) (t_climbs_2 K E)

def t_climbs_0 (K : PySem.W.Frag) (E : XK) : TS := tSeq (tPar 3 4 (tCons (tCB (cLen K) (tCons (tVar 2) tNil)) (tCons (tOp (rIxL K) (tVar 2) (tUn oNeg (tC (.int 1)))) tNil))) (t_climbs_1 K E)
def t_falls_2a_1 (K : PySem.W.Frag) (E : XK) : TS := (tDrop (tBM K "list" rAppend (tVar 5) (tCons (tCall (sp_times_above K) [] E0 (tCons (tOp oAdd (tOp oSub (tOp oSub (tOp oSub (tVar 1) (tVar 6)) (tC (.int 2))) (tVar 0)) (tVar 7)) (tCons (tOp oSub (tVar 4) (tVar 3)) tNil))) tNil)))

def t_falls_2a_0 (K : PySem.W.Frag) (E : XK) : TS := tSeq (tDrop (tBM K "list" rAppend (tVar 5) (tCons (tCall (sp_times_above K) [] E0 (tCons (tOp oSub (tVar 0) (tVar 7)) (tCons (tUn oNeg (tVar 4)) tNil))) tNil))) (t_falls_2a_1 K E)

def t_falls_3 (K : PySem.W.Frag) (E : XK) : TS := (tRet (tCall (sp_least_of K) [] E0 (tCons (tVar 5) tNil)))

@[irreducible] def t_falls_2 (K : PySem.W.Frag) (E : XK) : TS := tSeq (tFor (iEnum K (tCons (tVar 2) tNil)) (gTup K 2 (gCons (gName 6) (gCons (gName 7) gNil)))
    (t_falls_2a_0 K E)) (t_falls_3 K E)

def t_falls_1 (K : PySem.W.Frag) (E : XK) : TS := tSeq (tAsg (tLst tNil) (gName 5)) (t_falls_2 K E)

def t_falls_0 (K : PySem.W.Frag) (E : XK) : TS := tSeq (tPar 3 4 (tCons (tCB (cLen K) (tCons (tVar 2) tNil)) (tCons (tOp (rIxL K) (tVar 2) (tUn oNeg (tC (.int 1)))) tNil))) (t_falls_1 K E)

theorem pure_climbs {K : PySem.W.Frag} (ws : List V) (H : Hp) (Q : VK) (E : XK) (h : sp_climbs K ws H Q E) : t_climbs_0 K E { nx := fun _ H' => Q .non H', rt := Q } (start ["place", "size", "sums", "many", "rise", "found", "at", "total"] ws) H := by
  unfold sp_climbs at h
  obtain ⟨place, size, a, sums, rfl, hS, h1, h4, r1, r2, k⟩ := h
  show t_climbs_0 K E _ [some (.int place), some (.int size), some (.ref a), none, none, none, none, none] H
  refine ⟨_, rfl, a, _, rfl, .inl hS, _, rfl, _, rfl, a, _, _, _, rfl, rfl, hS, last_at h1, _, _, rfl, ?_⟩
  rw [List.length_map]
  unfold Rh.climbsF at k
  generalize hr : sums.getD (sums.length - 1) 0 = rise at *
  refine ⟨Nat.zero_le _, fun p hp => ?_⟩
  show t_climbs_2 K E _ [some (.int place), some (.int size), some (.ref a), some (.int (sums.length : Nat)), some (.int rise), some (.ref p), none, none] _
  have e1 := ex_new (o := .lst []) hp
  unfold t_climbs_2
  refine ⟨_, rfl, a, _, rfl, sq_ex e1 hS, for_it walk_enum (fun i σ H' => Ex H H' ∧ H' p = some (.lst ((Rh.optL (fun i => Rh.timesAbove (place + sums.getD i 0) rise) (fun i => Rh.timesAbove (size + (i : Int) - place - sums.getD i 0) ((sums.length : Int) - rise)) i).map oV)) ∧
    ∃ u v, σ = [some (.int place), some (.int size), some (.ref a), some (.int (sums.length : Nat)), some (.int rise), some (.ref p), u, v]) ⟨e1, upd_same, none, none, rfl⟩ (fun i σ H' _ h => sq_ex h.1 hS) ?_ ?_⟩
  · rintro i x σ H1 H2 hi ⟨e, hp1, u, v, rfl⟩ ⟨t, y1, y2, rfl, ht, rfl, g1, g2⟩
    cases g1
    have g2 : (sums.map V.int)[i]? = some y2 := g2
    rw [List.getElem?_map] at g2
    cases hy : sums[i]? with
    | none =>
      rw [hy] at g2
      cases g2
    | some y =>
      rw [hy] at g2
      have ex : V.int y = y2 := Option.some.inj g2
      subst ex
      rw [List.length_map] at hi
      have e5 := ex_new (o := .tup [.int (i : Nat), .int y]) ht
      have lenb : ∀ m, m ≤ 9 → m < sizeLine := fun m hm => Nat.lt_of_le_of_lt hm (by decide)
      refine ⟨t, _, rfl, SqT.of upd_same, rfl, _, _, rfl, _, _, rfl, rfl, ?_⟩
      refine ⟨_, rfl, .inl ⟨rfl, _, SqL.of (e5 _ _ hp1)⟩, _, rfl, _, rfl, _, _, rfl, rfl, _, rfl, ?_⟩
      unfold sp_times_above
      refine ⟨_, _, rfl, by omega, p, _, _, rfl, rfl, e5 _ _ hp1, ?_, ?_⟩
      · rw [List.length_map, optL_len]
        exact lenb _ (by omega)
      refine ⟨_, rfl, .inl ⟨rfl, _, SqL.of upd_same⟩, _, rfl, _, rfl, _, _, rfl, rfl, _, rfl, _, _, rfl, rfl, _, rfl, _, _, rfl, rfl, _, rfl, _, rfl, _, _, rfl, rfl, ?_⟩
      unfold sp_times_above
      refine ⟨_, _, rfl, by omega, p, _, _, rfl, rfl, upd_same, ?_, ?_⟩
      · rw [List.length_append, List.length_map, optL_len]
        exact lenb _ (by show 2 * i + 1 ≤ 9; omega)
      · refine ⟨ex_mut (ex_mut (ex_trans e e5) hp) hp, ?_, _, _, rfl⟩
        rw [upd_same, Rh.optL_succ, List.map_append, getD_some hy, List.append_assoc]
        rfl
  · rintro σ H1 ⟨e, hp1, u, v, rfl⟩
    rw [List.length_map] at hp1
    refine ⟨_, rfl, ?_⟩
    unfold sp_least_of
    refine ⟨p, _, rfl, SqL.of hp1, ?_, fun H2 e2 => k _ (ex_trans e e2)⟩
    rw [optL_len]
    omega
theorem pure_falls {K : PySem.W.Frag} (ws : List V) (H : Hp) (Q : VK) (E : XK) (h : sp_falls K ws H Q E) : t_falls_0 K E { nx := fun _ H' => Q .non H', rt := Q } (start ["place", "size", "sums", "many", "rise", "found", "at", "total"] ws) H := by
  unfold sp_falls at h
  obtain ⟨place, size, a, sums, rfl, hS, h1, h4, r1, r2, k⟩ := h
  show t_falls_0 K E _ [some (.int place), some (.int size), some (.ref a), none, none, none, none, none] H
  refine ⟨_, rfl, a, _, rfl, .inl hS, _, rfl, _, rfl, a, _, _, _, rfl, rfl, hS, last_at h1, _, _, rfl, ?_⟩
  rw [List.length_map]
  unfold Rh.fallsF at k
  generalize hr : sums.getD (sums.length - 1) 0 = rise at *
  refine ⟨Nat.zero_le _, fun p hp => ?_⟩
  show t_falls_2 K E _ [some (.int place), some (.int size), some (.ref a), some (.int (sums.length : Nat)), some (.int rise), some (.ref p), none, none] _
  have e1 := ex_new (o := .lst []) hp
  unfold t_falls_2
  refine ⟨_, rfl, a, _, rfl, sq_ex e1 hS, for_it walk_enum (fun i σ H' => Ex H H' ∧ H' p = some (.lst ((Rh.optL (fun i => Rh.timesAbove (place - sums.getD i 0) (-rise)) (fun i => Rh.timesAbove (size - (i : Int) - 2 - place + sums.getD i 0) (rise - (sums.length : Int))) i).map oV)) ∧
    ∃ u v, σ = [some (.int place), some (.int size), some (.ref a), some (.int (sums.length : Nat)), some (.int rise), some (.ref p), u, v]) ⟨e1, upd_same, none, none, rfl⟩ (fun i σ H' _ h => sq_ex h.1 hS) ?_ ?_⟩
  · rintro i x σ H1 H2 hi ⟨e, hp1, u, v, rfl⟩ ⟨t, y1, y2, rfl, ht, rfl, g1, g2⟩
    cases g1
    have g2 : (sums.map V.int)[i]? = some y2 := g2
    rw [List.getElem?_map] at g2
    cases hy : sums[i]? with
    | none =>
      rw [hy] at g2
      cases g2
    | some y =>
      rw [hy] at g2
      have ex : V.int y = y2 := Option.some.inj g2
      subst ex
      rw [List.length_map] at hi
      have e5 := ex_new (o := .tup [.int (i : Nat), .int y]) ht
      have lenb : ∀ m, m ≤ 9 → m < sizeLine := fun m hm => Nat.lt_of_le_of_lt hm (by decide)
      refine ⟨t, _, rfl, SqT.of upd_same, rfl, _, _, rfl, _, _, rfl, rfl, ?_⟩
      refine ⟨_, rfl, .inl ⟨rfl, _, SqL.of (e5 _ _ hp1)⟩, _, rfl, _, rfl, _, _, rfl, rfl, _, rfl, _, rfl, ?_⟩
      unfold sp_times_above
      refine ⟨_, _, rfl, by omega, p, _, _, rfl, rfl, e5 _ _ hp1, ?_, ?_⟩
      · rw [List.length_map, optL_len]
        exact lenb _ (by omega)
      refine ⟨_, rfl, .inl ⟨rfl, _, SqL.of upd_same⟩, _, rfl, _, rfl, _, _, rfl, rfl, _, _, rfl, rfl, _, rfl, _, _, rfl, rfl, _, rfl, _, _, rfl, rfl, _, rfl, _, rfl, _, _, rfl, rfl, ?_⟩
      unfold sp_times_above
      refine ⟨_, _, rfl, by omega, p, _, _, rfl, rfl, upd_same, ?_, ?_⟩
      · rw [List.length_append, List.length_map, optL_len]
        exact lenb _ (by show 2 * i + 1 ≤ 9; omega)
      · refine ⟨ex_mut (ex_mut (ex_trans e e5) hp) hp, ?_, _, _, rfl⟩
        rw [upd_same, Rh.optL_succ, List.map_append, getD_some hy, List.append_assoc]
        rfl
  · rintro σ H1 ⟨e, hp1, u, v, rfl⟩
    rw [List.length_map] at hp1
    refine ⟨_, rfl, ?_⟩
    unfold sp_least_of
    refine ⟨p, _, rfl, SqL.of hp1, ?_, fun H2 e2 => k _ (ex_trans e e2)⟩
    rw [optL_len]
    omega
/-! ### beside, does_stay, row_ahead -/
@[irreducible] def sp_beside (K : PySem.W.Frag) : Sp := fun ws H Q _ => ∃ p s : Int, ws = [.int p, .int s] ∧ Q (.int (if p < s - p then p else p - s)) H
def t_beside_0 (K : PySem.W.Frag) (E : XK) : TS := (tRet (tIf (tTest (tOp oLt (tVar 0) (tOp oSub (tVar 1) (tVar 0)))) (tVar 0) (tOp oSub (tVar 0) (tVar 1))))
def t_does_stay_1a_0 (K : PySem.W.Frag) (E : XK) : TS := (tAug 2 (tOp oSub (tVar 3) (tCB cInt (tCons (tOp oLt (tVar 2) (tC (.int 0))) tNil))) (ipI fun i j => i + j))

def t_does_stay_2 (K : PySem.W.Frag) (E : XK) : TS := (tRet (tOp rEq (tVar 2) (tVar 1)))

@[irreducible] def t_does_stay_1 (K : PySem.W.Frag) (E : XK) : TS := tSeq (tFor (iList K (tVar 0)) (gName 3)
    (t_does_stay_1a_0 K E)) (t_does_stay_2 K E)

def t_does_stay_0 (K : PySem.W.Frag) (E : XK) : TS := tSeq (tAsg (tVar 1) (gName 2)) (t_does_stay_1 K E)
def t_row_ahead_1 (K : PySem.W.Frag) (E : XK) : TS := (tRet (tLc (iRng1 (tCons (tVar 3) tNil)) (gName 4) tYes (tOp (rIxT K) (tFld K (tVar 0) "rises") (tOp oMod (tOp oSub (tOp oSub (tOp oSub (tVar 1) (tVar 2)) (tC (.int 1))) (tVar 4)) (tVar 3))) [4]))

def t_row_ahead_0 (K : PySem.W.Frag) (E : XK) : TS := tSeq (tAsg (tCB (cLen K) (tCons (tFld K (tVar 0) "rises") tNil)) (gName 3)) (t_row_ahead_1 K E)

theorem pure_beside {K : PySem.W.Frag} (ws : List V) (H : Hp) (Q : VK) (E : XK) (h : sp_beside K ws H Q E) : t_beside_0 K E { nx := fun _ H' => Q .non H', rt := Q } (start ["place", "size"] ws) H := by
  unfold sp_beside at h
  obtain ⟨p, s, rfl, k⟩ := h
  refine ⟨_, rfl, _, rfl, _, rfl, _, _, rfl, rfl, _, _, rfl, rfl, _, rfl, ?_⟩
  by_cases c : p < s - p
  · rw [if_pos c] at k
    exact iteT' (decide_eq_true c) ⟨_, rfl, k⟩
  · rw [if_neg c] at k
    exact iteF' (decide_eq_false c) ⟨_, rfl, _, rfl, _, _, rfl, rfl, k⟩
@[irreducible] def sp_does_stay (K : PySem.W.Frag) : Sp := fun ws H Q _ => ∃ (a : Addr) (row : List Int) (here : Int), ws = [.ref a, .int here] ∧ SqL K H a (row.map V.int) ∧ Q (.bl (decide (Rh.stays row here = here))) H
theorem stays_snoc : ∀ (l : List Int) (r b : Int), Rh.stays (l ++ [r]) b = Rh.st1 (Rh.stays l b) r
  | [], r, b => rfl
  | x :: l, r, b => stays_snoc l r (Rh.st1 b x)
theorem pure_does_stay {K : PySem.W.Frag} (ws : List V) (H : Hp) (Q : VK) (E : XK) (h : sp_does_stay K ws H Q E) : t_does_stay_0 K E { nx := fun _ H' => Q .non H', rt := Q } (start ["row", "here", "now", "rise"] ws) H := by
  unfold sp_does_stay at h
  obtain ⟨a, row, here, rfl, hS, k⟩ := h
  refine ⟨_, rfl, ?_⟩
  show t_does_stay_1 K E _ [some (.ref a), some (.int here), some (.int here), none] H
  unfold t_does_stay_1
  refine ⟨_, rfl, a, rfl, ⟨_, hS⟩, for_it walk_list (fun i σ H' => H' = H ∧ ∃ u, σ = [some (.ref a), some (.int here), some (.int (Rh.stays (row.take i) here)), u]) ⟨rfl, none, rfl⟩ (fun i σ H' _ h => by rw [h.1]; exact hS) ?_ ?_⟩
  · rintro i x σ H1 H2 hi ⟨rfl, u, rfl⟩ ⟨rfl, hx⟩
    rw [List.getElem?_map] at hx
    cases hy : row[i]? with
    | none =>
      rw [hy] at hx
      cases hx
    | some y =>
      rw [hy] at hx
      have ex : V.int y = x := Option.some.inj hx
      subst ex
      have et : Rh.stays (row.take (i + 1)) here = Rh.stays (row.take i) here + (y - (if decide (Rh.stays (row.take i) here < 0) = true then 1 else 0)) := by
        rw [List.take_succ, hy]
        show Rh.stays (row.take i ++ [y]) here = _
        rw [stays_snoc]
        unfold Rh.st1
        by_cases c : Rh.stays (row.take i) here < 0
        · rw [if_pos c, decide_eq_true c, if_pos rfl]
          omega
        · rw [if_neg c, decide_eq_false c, if_neg Bool.false_ne_true]
          omega
      refine ⟨_, rfl, _, rfl, _, rfl, _, _, rfl, rfl, .inr ⟨_, rfl, _, _, rfl, rfl, _, _, rfl, rfl, rfl, some (.int y), ?_⟩⟩
      rw [et]
      rfl
  · rintro σ H1 ⟨rfl, u, rfl⟩
    rw [List.length_map, List.take_length]
    refine ⟨_, rfl, _, rfl, rfl, ?_⟩
    rw [d_int]
    exact k
theorem rrow_map (R : List Int) : ∀ (j : Nat) (a : Int), Rh.rrow R a j = (List.range j).map fun (i : Nat) => Rh.rI R (a - (i : Int))
  | 0, _ => rfl
  | j + 1, a => by
    show Rh.rI R a :: Rh.rrow R (a - 1) j = _
    rw [rrow_map R j (a - 1), List.range_succ_eq_map, List.map_cons, List.map_map]
    congr 1
    · congr 1
      omega
    · refine List.map_congr_left fun i _ => ?_
      show _ = Rh.rI R (a - ((i + 1 : Nat) : Int))
      congr 1
      omega
theorem rises_len (vs : List Ve) : (rises vs).length = vs.length := List.length_map ..
/-- the rises read at a place, round and round -/
theorem rise_at {R : List Int} (h : 1 ≤ R.length) (i : Int) : atI (R.map V.int) (i % (R.length : Int)) = some (.int (Rh.rI R i)) := by
  have h0 := Int.emod_nonneg i (show (R.length : Int) ≠ 0 by omega)
  have h1 := Int.emod_lt_of_pos i (show (0 : Int) < (R.length : Int) by omega)
  refine at_of (j := (i % (R.length : Int)).toNat) (by omega) ?_
  have h2 : (i % (R.length : Int)).toNat < R.length := by omega
  rw [List.getElem?_map, List.getElem?_eq_getElem h2]
  unfold Rh.rI
  rw [List.getD_eq_getElem?_getD, List.getElem?_eq_getElem h2]
  rfl
@[irreducible] def sp_row_ahead (K : PySem.W.Frag) : Sp := fun ws H Q _ => ∃ (a : Addr) (vs : List Ve) (left n size : Int), ws = [.ref a, .int n, .int size] ∧ RhAt K H a vs left ∧ RhOk vs left ∧
  ∀ (p : Addr) (H' : Hp), H p = none → Ex H H' → H' p = some (.lst ((Rh.rrow (rises vs) (n - size - 1) vs.length).map V.int)) → Q (.ref p) H'
theorem pure_row_ahead {K : PySem.W.Frag} (T : RhC K) (ws : List V) (H : Hp) (Q : VK) (E : XK) (h : sp_row_ahead K ws H Q E) : t_row_ahead_0 K E { nx := fun _ H' => Q .non H', rt := Q } (start ["rhyme", "n", "size", "many", "at"] ws) H := by
  unfold sp_row_ahead at h
  obtain ⟨a, vs, left, n, size, rfl, R, ok, k⟩ := h
  obtain ⟨dx, tv, tr, h1, h2, h3⟩ := R
  have hl : ((rises vs).map V.int).length = vs.length := by rw [List.length_map, rises_len]
  refine ⟨_, rfl, a, _, dx, _, _, rfl, h1, T.cl, T.nr, rhF_r _ _ _, tr, _, rfl, .inr h3, ?_⟩
  rw [hl]
  show t_row_ahead_1 K E _ [some (.ref a), some (.int n), some (.int size), some (.int (vs.length : Nat)), none] H
  have l1 := ok.l1
  have l4 := ok.l4
  refine ⟨_, rfl, _, rfl, by omega, by omega, fun p hp => lc_map walk_range (fun i => .int (Rh.rI (rises vs) (n - size - 1 - (i : Int)))) hp (Nat.lt_of_le_of_lt (by omega : _ ≤ 4) (by decide)) (fun _ _ => trivial) ?_ ?_⟩
  · rintro i x H3 H4 hi e ⟨rfl, rfl⟩ Q Zf q
    refine ⟨rfl, iteT (B := Zf H4) ?_⟩
    refine ⟨_, rfl, a, _, dx, _, _, rfl, e _ _ h1, T.cl, T.nr, rhF_r _ _ _, _, rfl, _, rfl, _, _, rfl, rfl, _, _, rfl, rfl, _, rfl, _, _, rfl, rfl, _, rfl, _, _, rfl, rfl, by omega, ?_⟩
    have er := rise_at (R := rises vs) (by rw [rises_len]; omega) (n - size - 1 - (0 + (i : Int)))
    rw [rises_len] at er
    refine ⟨tr, _, _, _, rfl, rfl, sqt_ex e h3, er, ?_⟩
    have e0 : n - size - 1 - (0 + (i : Int)) = n - size - 1 - (i : Int) := by omega
    rw [e0]
    exact q _ (ex_refl _)
  · intro H3 e h4
    refine k p H3 hp e ?_
    rw [h4, rrow_map, List.map_map]
    rfl

end Z
namespace Z
open PySem PySem.Spec PyProof.Rows L2
local macro_rules | `(tactic| walk_at "look") => `(tactic| first | assumption | exact upd_same | exact SqL.of (by assumption) | exact SqT.of (by assumption) | exact SqL.of upd_same | exact SqT.of upd_same)
local macro_rules | `(tactic| walk_at "at") => `(tactic| first | exact at0 | exact at1 | exact at2 | exact at3 | exact ix0 | exact ix1 | assumption | exact atI_nat (by rfl))
local macro_rules | `(tactic| walk_at "sd") => `(tactic| ((try dsimp only); first | assumption | omega | (unfold CMul; omega) | (unfold CDiv; omega) | (unfold CPow; decide) | decide))
local macro_rules | `(tactic| walk_at "st") => `(tactic| first
  | (refine ⟨_, rfl, ?_⟩)
  | (refine ⟨_, _, rfl, rfl, ?_⟩)
  | (refine ⟨rfl, ?_⟩)
  | (refine .inl ⟨_, rfl, ?_⟩)
  | (refine ⟨_, _, _, _, rfl, rfl, (by walk_at "look"), (by walk_at "at"), ?_⟩)
  | (refine ⟨_, _, rfl, .inl (by walk_at "look"), ?_⟩)
  | (refine And.intro (by walk_at "sd") ?_)
  | fail "no step")
local macro_rules | `(tactic| walk_at "go") => `(tactic| repeat' (walk_at "st"))
local macro_rules | `(tactic| walk_at "ans") => `(tactic| (intro Q q; (repeat' (walk_at "st")); exact q))

/-! ### how a place is lifted -/
theorem rise_bd {vs : List Ve} {left : Int} (ok : RhOk vs left) (i : Int) : -5 ≤ Rh.rI (rises vs) i ∧ Rh.rI (rises vs) i ≤ 6 := by
  have l1 := ok.l1
  unfold Rh.rI
  have h0 := Int.emod_nonneg i (show ((rises vs).length : Int) ≠ 0 by rw [rises_len]; omega)
  have h1 := Int.emod_lt_of_pos i (show (0 : Int) < ((rises vs).length : Int) by rw [rises_len]; omega)
  have h2 : (i % ((rises vs).length : Int)).toNat < (rises vs).length := by omega
  rw [List.getD_eq_getElem?_getD, List.getElem?_eq_getElem h2]
  have hm : (rises vs)[(i % ((rises vs).length : Int)).toNat] ∈ rises vs := List.getElem_mem h2
  obtain ⟨v, hv, e⟩ := List.mem_map.mp hm
  show -5 ≤ (rises vs)[(i % ((rises vs).length : Int)).toNat] ∧ _
  rw [← e]
  have := ok.cnt v hv
  show -5 ≤ riseOf v ∧ riseOf v ≤ 6
  unfold riseOf
  split <;> omega
theorem psum_bd {R : List Int} (hR : ∀ i, -5 ≤ Rh.rI R i ∧ Rh.rI R i ≤ 6) (a : Int) : ∀ j : Nat, -5 * (j : Int) ≤ Rh.psum R a j ∧ Rh.psum R a j ≤ 6 * (j : Int)
  | 0 => by rw [Rh.psum_zero]; omega
  | j + 1 => by
    have := psum_bd hR a j
    have := hR (a - (j : Int))
    rw [Rh.psum_succ]
    omega
theorem rrow_take (R : List Int) (a : Int) (m : Nat) : ∀ j : Nat, j ≤ m → ((Rh.rrow R a m).take j).sum = Rh.psum R a j
  | 0, _ => by rw [Rh.psum_zero]; simp
  | j + 1, h => by
    have h2 : (Rh.rrow R a m)[j]? = some (Rh.rI R (a - (j : Int))) := by
      rw [rrow_map, List.getElem?_map, List.getElem?_range (by omega)]
      rfl
    rw [take_sum h2, rrow_take R a m j (by omega), Rh.psum_succ]
theorem rrow_len (R : List Int) (a : Int) (m : Nat) : (Rh.rrow R a m).length = m := by
  rw [rrow_map, List.length_map, List.length_range]
theorem sums_get (R : List Int) (a : Int) (m i : Nat) (h : i < m) : (sumsL (Rh.rrow R a m)).getD i 0 = Rh.psum R a (i + 1) := by
  unfold sumsL
  rw [rrow_len, List.getD_eq_getElem?_getD, List.getElem?_map, List.getElem?_range h]
  exact rrow_take R a m (i + 1) (by omega)
theorem rsums_len (R : List Int) (a : Int) (m : Nat) : (sumsL (Rh.rrow R a m)).length = m := by
  rw [sumsL_len, rrow_len]
abbrev rsum (R : List Int) (a : Int) (m : Nat) : List Int := sumsL (Rh.rrow R a m)
theorem up_get {R : List Int} {a p s c : Int} {m : Nat} (hm : 1 ≤ m) (h : Rh.Up p s (rsum R a m) c) (i : Nat) (hi : i < m) :
    0 ≤ p + c * Rh.psum R a m + Rh.psum R a (i + 1) ∧ p + c * Rh.psum R a m + Rh.psum R a (i + 1) ≤ s + c * (m : Int) + (i : Int) := by
  have := h i (by rw [rsums_len]; exact hi)
  rw [rsums_len, sums_get R a m i hi, sums_get R a m (m - 1) (by omega)] at this
  have e : m - 1 + 1 = m := by omega
  rw [e] at this
  exact this
theorem leap_up {R : List Int} {n s p : Int} {m : Nat} (hm : m = R.length) (h1 : 1 ≤ m) (L : Nat) (h : ∀ c : Int, 0 ≤ c → c < (L : Int) → Rh.Up p s (rsum R (n - s - 1) m) c) :
    Rh.lift R n (L * m) s p = p + (L : Int) * Rh.psum R (n - s - 1) m :=
  Rh.lift_leap R n s p _ m hm rfl L fun c hc i hi => up_get h1 (h (c : Int) (by omega) (by omega)) i hi
theorem leap_bd {R : List Int} {n s p : Int} {m : Nat} (h1 : 1 ≤ m) (L : Nat) (hL : 1 ≤ L) (h : ∀ c : Int, 0 ≤ c → c < (L : Int) → Rh.Up p s (rsum R (n - s - 1) m) c) :
    0 ≤ p + (L : Int) * Rh.psum R (n - s - 1) m ∧ p + (L : Int) * Rh.psum R (n - s - 1) m < s + (L : Int) * (m : Int) := by
  have := up_get h1 (h ((L : Int) - 1) (by omega) (by omega)) (m - 1) (by omega)
  have e : m - 1 + 1 = m := by omega
  rw [e, Int.sub_mul, Int.sub_mul] at this
  omega
/-- where no whole rhyme is straight the place is beside the singer -/
theorem near_up {R : List Int} {a p s : Int} {m : Nat} (hR : ∀ i, -5 ≤ Rh.rI R i ∧ Rh.rI R i ≤ 6) (h1 : 1 ≤ m) (h4 : m ≤ 4) (hp : 0 ≤ p) (hs : p < s) (h64 : 64 < s) (h : ¬ Rh.Up p s (rsum R a m) 0) :
    -26 ≤ (if p < s - p then p else p - s) ∧ (if p < s - p then p else p - s) ≤ 26 := by
  have key : p < 26 ∨ s - 26 ≤ p := by
    by_cases c : p < 26 ∨ s - 26 ≤ p
    · exact c
    · exfalso
      refine h fun i hi => ?_
      rw [rsums_len] at hi
      rw [rsums_len, sums_get R a m i hi, Int.zero_mul, Int.zero_mul]
      have := psum_bd hR a (i + 1)
      omega
  split <;> omega
theorem pl_beside {p s : Int} (hp : 0 ≤ p) (hs : p < s) : Rh.pl s (if p < s - p then p else p - s) = p := by
  unfold Rh.pl
  split <;> split <;> omega
@[irreducible] def sp_lifted (K : PySem.W.Frag) : Sp := fun ws H Q _ => ∃ (a : Addr) (vs : List Ve) (left place size n : Int), ws = [.ref a, .int place, .int size, .int n] ∧ RhAt K H a vs left ∧ RhOk vs left ∧ 0 ≤ place ∧ place < size ∧
  ∀ H', Ex H H' → Q (.int (Rh.lift (rises vs) n (n - size).toNat size place)) H'
def t_lifted_1a_5a_1 (K : PySem.W.Frag) (E : XK) : TS := (tAug 2 (tOp oMul (tVar 9) (tVar 4)) (ipI fun i j => i + j))

def t_lifted_1a_5a_0 (K : PySem.W.Frag) (E : XK) : TS := tSeq (tAug 1 (tOp oMul (tVar 9) (tOp (rIxL K) (tVar 6) (tUn oNeg (tC (.int 1))))) (ipI fun i j => i + j)) (t_lifted_1a_5a_1 K E)

def t_lifted_1a_5b_0a_1 (K : PySem.W.Frag) (E : XK) : TS := (tAug 2 (tOp oMul (tVar 7) (tVar 4)) (ipI fun i j => i + j))

def t_lifted_1a_5b_0a_0 (K : PySem.W.Frag) (E : XK) : TS := tSeq (tAug 1 (tOp oMul (tOp oMul (tVar 7) (tVar 4)) (tCB cInt (tCons (tOp oLt (tCall (sp_beside K) [] E0 (tCons (tVar 1) (tCons (tVar 2) tNil))) (tC (.int 0))) tNil))) (ipI fun i j => i + j)) (t_lifted_1a_5b_0a_1 K E)

def t_lifted_1a_5b_0b_1 (K : PySem.W.Frag) (E : XK) : TS := (tAsg (tOp oMod (tOp oAdd (tVar 1) (tOp (rIxL K) (tVar 5) (tC (.int 0)))) (tVar 2)) (gName 1))

def t_lifted_1a_5b_0b_0 (K : PySem.W.Frag) (E : XK) : TS := tSeq (tAug 2 (tC (.int 1)) (ipI fun i j => i + j)) (t_lifted_1a_5b_0b_1 K E)

@[irreducible] def t_lifted_1a_5b_0 (K : PySem.W.Frag) (E : XK) : TS := (tIfS (tAnd (tTest (tOp oGt (tVar 7) (tC (.int 0)))) (tAnd (tTest (tOp oGt (tVar 2) (tC (.int 64)))) (tB (tCall (sp_does_stay K) [] E0 (tCons (tVar 5) (tCons (tCall (sp_beside K) [] E0 (tCons (tVar 1) (tCons (tVar 2) tNil))) tNil))))))
    (t_lifted_1a_5b_0a_0 K E) (t_lifted_1a_5b_0b_0 K E))

@[irreducible] def t_lifted_1a_5 (K : PySem.W.Frag) (E : XK) : TS := (tIfS (tTest (tOp oGt (tVar 9) (tC (.int 0))))
    (t_lifted_1a_5a_0 K E) (t_lifted_1a_5b_0 K E))

def t_lifted_1a_4 (K : PySem.W.Frag) (E : XK) : TS := tSeq (tAsg (tIf (tTest (tOp oIsN (tVar 8) (tC .non))) (tVar 7) (tCB cMin2 (tCons (tVar 8) (tCons (tVar 7) tNil)))) (gName 9)) (t_lifted_1a_5 K E)

def t_lifted_1a_3 (K : PySem.W.Frag) (E : XK) : TS := tSeq (tAsg (tCall (sp_climbs K) [] E0 (tCons (tVar 1) (tCons (tVar 2) (tCons (tVar 6) tNil)))) (gName 8)) (t_lifted_1a_4 K E)

def t_lifted_1a_2 (K : PySem.W.Frag) (E : XK) : TS := tSeq (tAsg (tOp oFdv (tOp oSub (tVar 3) (tVar 2)) (tVar 4)) (gName 7)) (t_lifted_1a_3 K E)

def t_lifted_1a_1 (K : PySem.W.Frag) (E : XK) : TS := tSeq (tAsg (tCall (sp_sums_of K) [] E0 (tCons (tVar 5) tNil)) (gName 6)) (t_lifted_1a_2 K E)

def t_lifted_1a_0 (K : PySem.W.Frag) (E : XK) : TS := tSeq (tAsg (tCall (sp_row_ahead K) [] E0 (tCons (tVar 0) (tCons (tVar 3) (tCons (tVar 2) tNil)))) (gName 5)) (t_lifted_1a_1 K E)

def t_lifted_2 (K : PySem.W.Frag) (E : XK) : TS := (tRet (tVar 1))

@[irreducible] def t_lifted_1 (K : PySem.W.Frag) (E : XK) : TS := tSeq (tWhile (tTest (tOp oLt (tVar 2) (tVar 3)))
    (t_lifted_1a_0 K E)) (t_lifted_2 K E)

def t_lifted_0 (K : PySem.W.Frag) (E : XK) : TS := tSeq (tAsg (tCB (cLen K) (tCons (tFld K (tVar 0) "rises") tNil)) (gName 4)) (t_lifted_1 K E)

/-- between two turns -/
def LiftSt (K : PySem.W.Frag) (H0 : Hp) (a : Addr) (vs : List Ve) (left n goal : Int) (σ : L2.St) (H : Hp) : Prop := ∃ (place size : Int) (u5 u6 u7 u8 u9 : Option V),
  σ = [some (.ref a), some (.int place), some (.int size), some (.int n), some (.int (vs.length : Nat)), u5, u6, u7, u8, u9] ∧ 0 ≤ place ∧ place < size ∧ Ex H0 H ∧ Rh.lift (rises vs) n (n - size).toNat size place = goal
def liftMu (σ : L2.St) (_ : Hp) : Nat := match σ with
  | [_, _, some (.int size), some (.int n), _, _, _, _, _, _] => (n - size).toNat
  | _ => 0
theorem lifted_turn {K : PySem.W.Frag} {E : XK} {D : Ends} {H0 H : Hp} {a : Addr} {vs : List Ve} {left n goal place size : Int} {u5 u6 u7 u8 u9 : Option V} (R : RhAt K H0 a vs left) (ok : RhOk vs left) (T : RhC K)
    (hp : 0 ≤ place) (hs : place < size) (hn : size < n) (e : Ex H0 H) (hg : Rh.lift (rises vs) n (n - size).toNat size place = goal)
    (k : ∀ σ H', LiftSt K H0 a vs left n goal σ H' → liftMu σ H' < (n - size).toNat → D.nx σ H') :
    t_lifted_1a_0 K E D [some (.ref a), some (.int place), some (.int size), some (.int n), some (.int (vs.length : Nat)), u5, u6, u7, u8, u9] H := by
  have l1 := ok.l1
  have l4 := ok.l4
  have hR := rise_bd ok
  have hm : vs.length = (rises vs).length := (rises_len vs).symm
  refine ⟨_, rfl, _, rfl, _, rfl, ?_⟩
  unfold sp_row_ahead
  refine ⟨a, vs, left, n, size, rfl, rh_ex e R, ok, fun pr H1 _ e1 hr => ?_⟩
  show t_lifted_1a_1 K E D [some (.ref a), some (.int place), some (.int size), some (.int n), some (.int (vs.length : Nat)), some (.ref pr), u6, u7, u8, u9] H1
  refine ⟨_, rfl, ?_⟩
  unfold sp_sums_of
  refine ⟨pr, _, rfl, SqL.of hr, (by rw [rrow_len]; omega), fun ps H2 _ e2 hsm => ?_⟩
  show t_lifted_1a_2 K E D [some (.ref a), some (.int place), some (.int size), some (.int n), some (.int (vs.length : Nat)), some (.ref pr), some (.ref ps), u7, u8, u9] H2
  refine ⟨_, rfl, _, rfl, _, _, rfl, rfl, _, rfl, _, _, rfl, rfl, ⟨by omega, by omega⟩, ?_⟩
  show t_lifted_1a_3 K E D [some (.ref a), some (.int place), some (.int size), some (.int n), some (.int (vs.length : Nat)), some (.ref pr), some (.ref ps), some (.int ((n - size) / (vs.length : Int))), u8, u9] H2
  generalize hmost : (n - size) / (vs.length : Int) = most
  refine ⟨_, rfl, _, rfl, _, rfl, ?_⟩
  unfold sp_climbs
  have hT : (rsum (rises vs) (n - size - 1) vs.length).getD ((rsum (rises vs) (n - size - 1) vs.length).length - 1) 0 = Rh.psum (rises vs) (n - size - 1) vs.length := by
    rw [rsums_len, sums_get _ _ _ _ (by omega)]
    congr 1
    omega
  have hTb := psum_bd hR (n - size - 1) vs.length
  refine ⟨place, size, ps, _, rfl, SqL.of hsm, (by rw [rsums_len]; omega), (by rw [rsums_len]; omega), (by rw [hT]; omega), (by rw [hT]; omega), fun H3 e3 => ?_⟩
  have told := Rh.climbs_told place size (rsum (rises vs) (n - size - 1) vs.length)
  generalize hf : Rh.climbsF place size (rsum (rises vs) (n - size - 1) vs.length) = found at told
  show t_lifted_1a_4 K E D [some (.ref a), some (.int place), some (.int size), some (.int n), some (.int (vs.length : Nat)), some (.ref pr), some (.ref ps), some (.int most), some (oV found), u9] H3
  have hmost1 : most * (vs.length : Int) ≤ n - size := by
    rw [← hmost]
    exact Int.ediv_mul_le _ (by omega)
  have hmost0 : 0 ≤ most := by
    rw [← hmost]
    exact Int.ediv_nonneg (by omega) (by omega)
  have e03 : Ex H0 H3 := ex_trans e (ex_trans e1 (ex_trans e2 e3))
  -- the leap
  have go : ∀ leap : Int, (0 < leap → leap ≤ most ∧ ∀ c : Int, 0 ≤ c → c < leap → Rh.Up place size (rsum (rises vs) (n - size - 1) vs.length) c) → (leap ≤ 0 → 0 < most → ¬ Rh.Up place size (rsum (rises vs) (n - size - 1) vs.length) 0) →
      t_lifted_1a_5 K E D [some (.ref a), some (.int place), some (.int size), some (.int n), some (.int (vs.length : Nat)), some (.ref pr), some (.ref ps), some (.int most), some (oV found), some (.int leap)] H3 := by
    intro leap g1 g2
    unfold t_lifted_1a_5
    refine if_go (decide (0 < leap)) (by walk_at "ans") (fun c => ?_) (fun c => ?_)
    · have c := of_decide_eq_true c
      obtain ⟨gm, gu⟩ := g1 c
      obtain ⟨L, rfl⟩ := Int.eq_ofNat_of_zero_le (Int.le_of_lt c)
      have hup := leap_up (R := rises vs) (n := n) hm l1 L gu
      have hbd := leap_bd (R := rises vs) (n := n) l1 L (by omega) gu
      have hLm : (L : Int) * (vs.length : Int) ≤ n - size := Int.le_trans (Int.mul_le_mul_of_nonneg_right gm (by omega)) hmost1
      have hLp : 0 < (L : Int) * (vs.length : Int) := Int.mul_pos c (by omega)
      refine ⟨_, rfl, _, rfl, _, rfl, _, rfl, ps, _, _, _, rfl, rfl, sq_ex e3 (SqL.of hsm), last_at (by rw [rsums_len]; omega), _, _, rfl, rfl, ?_, _, _, rfl, rfl, ?_⟩
      · rw [hT]
        exact .inr ⟨by omega, by omega⟩
      · refine ⟨_, rfl, _, rfl, _, rfl, _, _, rfl, rfl, .inr ⟨by omega, by omega⟩, _, _, rfl, rfl, ?_⟩
        refine k _ _ ⟨place + (L : Int) * Rh.psum (rises vs) (n - size - 1) vs.length, size + (L : Int) * (vs.length : Nat), _, _, _, _, _, by rw [hT]; rfl, hbd.1, hbd.2, e03, ?_⟩ ?_
        · rw [← hg]
          have es : (n - size).toNat = L * vs.length + (n - (size + (L : Int) * (vs.length : Nat))).toNat := by
            have : ((L * vs.length : Nat) : Int) = (L : Int) * (vs.length : Int) := Int.natCast_mul ..
            omega
          rw [es, Rh.lift_add, hup, Int.natCast_mul]
        · show (n - (size + (L : Int) * (vs.length : Nat))).toNat < _
          omega
    · have c := of_decide_eq_false c
      unfold t_lifted_1a_5b_0
      have hrr : SqL K H3 pr ((Rh.rrow (rises vs) (n - size - 1) vs.length).map V.int) := sq_ex (ex_trans e2 e3) (SqL.of hr)
      generalize hb : (if place < size - place then place else place - size) = b
      have hpl : Rh.pl size b = place := by
        rw [← hb]
        exact pl_beside hp hs
      have besid : ∀ Q : VK, Q (.int b) H3 → sp_beside K ([.int place, .int size] ++ []) H3 Q E0 := fun Q q => by
        unfold sp_beside
        refine ⟨place, size, rfl, ?_⟩
        rw [hb]
        exact q
      refine if_go (decide (0 < most) && (decide (64 < size) && decide (Rh.stays (Rh.rrow (rises vs) (n - size - 1) vs.length) b = b))) (fun Q q => and_go _ _ (by walk_at "ans") (fun _ Q q => and_go _ _ (by walk_at "ans") (fun _ Q q => ?_) q) q) (fun cc => ?_) (fun cc => ?_)
      · refine ⟨_, rfl, _, rfl, _, rfl, besid _ ?_⟩
        unfold sp_does_stay
        exact ⟨pr, _, b, rfl, hrr, _, rfl, q⟩
      · obtain ⟨c1, cc⟩ := Bool.and_eq_true_iff.mp cc
        obtain ⟨c2, c3⟩ := Bool.and_eq_true_iff.mp cc
        have c1 := of_decide_eq_true c1
        have c2 := of_decide_eq_true c2
        have c3 := of_decide_eq_true c3
        have hnear := near_up (a := n - size - 1) hR l1 l4 hp hs c2 (g2 (by omega) c1)
        rw [hb] at hnear
        obtain ⟨L, rfl⟩ := Int.eq_ofNat_of_zero_le hmost0
        have hst := Rh.lift_stay (rises vs) n size b vs.length hm l4 hR (by omega) hnear c3 L
        rw [hpl] at hst
        have hLp : 0 < (L : Int) * (vs.length : Int) := Int.mul_pos c1 (by omega)
        refine ⟨_, rfl, _, rfl, _, rfl, _, _, rfl, rfl, .inr ⟨by omega, by omega⟩, _, rfl, _, rfl, besid _ ⟨_, _, rfl, rfl, .inr ⟨_, rfl, _, _, rfl, rfl, .inr ?_, _, _, rfl, rfl, ?_⟩⟩⟩
        · constructor <;> split <;> decide
        · refine ⟨_, rfl, _, rfl, _, rfl, _, _, rfl, rfl, .inr ⟨by omega, by omega⟩, _, _, rfl, rfl, ?_⟩
          have hnew : place + (L : Int) * (vs.length : Nat) * (if decide (b < 0) = true then 1 else 0) = Rh.pl (size + (L : Int) * (vs.length : Int)) b := by
            rw [← hpl]
            unfold Rh.pl
            by_cases cb : b < 0
            · rw [decide_eq_true cb, if_pos rfl, if_pos cb, if_pos cb]
              omega
            · rw [decide_eq_false cb, if_neg Bool.false_ne_true, if_neg cb, if_neg cb]
              omega
          refine k _ _ ⟨Rh.pl (size + (L : Int) * (vs.length : Int)) b, size + (L : Int) * (vs.length : Nat), _, _, _, _, _, by rw [← hnew]; rfl, ?_, ?_, e03, ?_⟩ ?_
          · unfold Rh.pl
            split <;> omega
          · unfold Rh.pl
            split <;> omega
          · rw [← hg]
            have es : (n - size).toNat = L * vs.length + (n - (size + (L : Int) * (vs.length : Nat))).toNat := by
              have : ((L * vs.length : Nat) : Int) = (L : Int) * (vs.length : Int) := Int.natCast_mul ..
              omega
            rw [es, Rh.lift_add, hst, Int.natCast_mul]
          · show (n - (size + (L : Int) * (vs.length : Nat))).toNat < _
            omega
      · have h0 : atI ((Rh.rrow (rises vs) (n - size - 1) vs.length).map V.int) 0 = some (.int (Rh.rI (rises vs) (n - size - 1))) := by
          refine at_of (j := 0) rfl ?_
          rw [rrow_map, List.map_map, List.getElem?_map, List.getElem?_range (by omega)]
          show some (V.int (Rh.rI (rises vs) (n - size - 1 - ((0 : Nat) : Int)))) = _
          have e0 : n - size - 1 - ((0 : Nat) : Int) = n - size - 1 := by omega
          rw [e0]
        refine ⟨_, rfl, _, _, rfl, rfl, _, rfl, _, rfl, pr, _, _, _, rfl, rfl, hrr, h0, _, _, rfl, rfl, _, rfl, _, _, rfl, rfl, (by show (0 : Int) < size + 1; omega), ?_⟩
        have b0 := Int.emod_nonneg (place + Rh.rI (rises vs) (n - size - 1)) (show size + 1 ≠ 0 by omega)
        have b1 := Int.emod_lt_of_pos (place + Rh.rI (rises vs) (n - size - 1)) (show (0 : Int) < size + 1 by omega)
        refine k _ _ ⟨(place + Rh.rI (rises vs) (n - size - 1)) % (size + 1), size + 1, _, _, _, _, _, rfl, b0, b1, e03, ?_⟩ ?_
        · rw [← hg]
          have es : (n - size).toNat = (n - (size + 1)).toNat + 1 := by omega
          rw [es, Rh.lift_succ]
        · show (n - (size + 1)).toNat < _
          omega
  refine ⟨_, rfl, rfl, _, rfl, ?_⟩
  rw [oV_none]
  cases hfo : found with
  | none =>
    rw [hfo] at told go
    refine iteT ⟨_, rfl, ?_⟩
    refine go most (fun _ => ⟨Int.le_refl _, fun c h0 _ => told.1 rfl c h0⟩) (fun h h2 => by omega)
  | some x =>
    rw [hfo] at told go
    obtain ⟨x0, xu, xn⟩ := told.2 x rfl
    refine iteF ⟨_, rfl, _, rfl, x, most, rfl, ?_⟩
    by_cases c : most < x
    · rw [if_pos c]
      exact go most (fun _ => ⟨Int.le_refl _, fun c h0 h1 => xu c h0 (by omega)⟩) (fun h h2 => by omega)
    · rw [if_neg c]
      refine go x (fun _ => ⟨by omega, xu⟩) (fun h h2 => ?_)
      have : x = 0 := by omega
      rw [this] at xn
      exact xn
theorem pure_lifted {K : PySem.W.Frag} (T : RhC K) (ws : List V) (H : Hp) (Q : VK) (E : XK) (h : sp_lifted K ws H Q E) : t_lifted_0 K E { nx := fun _ H' => Q .non H', rt := Q } (start ["rhyme", "place", "size", "n", "many", "row", "sums", "most", "found", "leap"] ws) H := by
  unfold sp_lifted at h
  obtain ⟨a, vs, left, place, size, n, rfl, R, ok, hp, hs, k⟩ := h
  obtain ⟨dx, tv, tr, h1, h2, h3⟩ := id R
  have hl : ((rises vs).map V.int).length = vs.length := by rw [List.length_map, rises_len]
  refine ⟨_, rfl, a, _, dx, _, _, rfl, h1, T.cl, T.nr, rhF_r _ _ _, tr, _, rfl, .inr h3, ?_⟩
  rw [hl]
  show t_lifted_1 K E _ [some (.ref a), some (.int place), some (.int size), some (.int n), some (.int (vs.length : Nat)), none, none, none, none, none] H
  unfold t_lifted_1
  refine while_by (LiftSt K H a vs left n (Rh.lift (rises vs) n (n - size).toNat size place)) liftMu ⟨place, size, none, none, none, none, none, rfl, hp, hs, ex_refl _, rfl⟩ ?_ ?_
  · rintro σ H' ⟨pl, sz, u5, u6, u7, u8, u9, rfl, hp', hs', e, hg⟩
    refine ⟨_, rfl, _, rfl, _, _, rfl, rfl, _, rfl, ?_⟩
    by_cases c : sz < n
    · refine iteT' (decide_eq_true c) ?_
      refine lifted_turn (E := E) R ok T hp' hs' c e hg fun σ' H'' hL hM => ⟨hL, hM⟩
    · refine iteF' (decide_eq_false c) ?_
      refine ⟨_, rfl, ?_⟩
      have e0 : (n - sz).toNat = 0 := by omega
      rw [e0, Rh.lift_zero] at hg
      rw [hg]
      exact k H' e
  · rintro σ H' Q Q' hq ⟨x, hx, y, hy, i, j, h1, h2, b, hb, q⟩
    exact ⟨x, hx, y, hy, i, j, h1, h2, b, hb, hq _ _ q⟩

end Z
namespace Z
open PySem PySem.Spec PyProof.Rows L2
local macro_rules | `(tactic| walk_at "look") => `(tactic| first | assumption | exact upd_same | exact SqL.of (by assumption) | exact SqT.of (by assumption) | exact SqL.of upd_same | exact SqT.of upd_same)
local macro_rules | `(tactic| walk_at "at") => `(tactic| first | exact at0 | exact at1 | exact at2 | exact at3 | exact ix0 | exact ix1 | assumption | exact atI_nat (by rfl))
local macro_rules | `(tactic| walk_at "sd") => `(tactic| ((try dsimp only); first | assumption | omega | (unfold CMul; omega) | (unfold CDiv; omega) | (unfold CPow; decide) | decide))
local macro_rules | `(tactic| walk_at "st") => `(tactic| first
  | (refine ⟨_, rfl, ?_⟩)
  | (refine ⟨_, _, rfl, rfl, ?_⟩)
  | (refine ⟨rfl, ?_⟩)
  | (refine .inl ⟨_, rfl, ?_⟩)
  | (refine ⟨_, _, _, _, rfl, rfl, (by walk_at "look"), (by walk_at "at"), ?_⟩)
  | (refine ⟨_, _, rfl, .inl (by walk_at "look"), ?_⟩)
  | (refine And.intro (by walk_at "sd") ?_)
  | fail "no step")
local macro_rules | `(tactic| walk_at "go") => `(tactic| repeat' (walk_at "st"))
local macro_rules | `(tactic| walk_at "ans") => `(tactic| (intro Q q; (repeat' (walk_at "st")); exact q))

/-! ### sorted -/
def sortI (l : List Int) : List Int := l.mergeSort fun a b => decide (a ≤ b)
theorem sortI_perm (l : List Int) : (sortI l).Perm l := List.mergeSort_perm l _
theorem sortI_pw (l : List Int) : (sortI l).Pairwise (· ≤ ·) := by
  have := List.pairwise_mergeSort (le := fun a b : Int => decide (a ≤ b)) (fun a b c h1 h2 => decide_eq_true (Int.le_trans (of_decide_eq_true h1) (of_decide_eq_true h2))) (fun a b => by
    rcases Int.le_total a b with h | h
    · rw [decide_eq_true h]
      rfl
    · rw [decide_eq_true h, Bool.or_true]) l
  exact this.imp fun h => of_decide_eq_true h
theorem sort_uniq {l l' : List Int} (p : l'.Perm l) (s : l'.Pairwise (· ≤ ·)) : l' = sortI l :=
  List.Perm.eq_of_pairwise (fun a b _ _ h1 h2 => Int.le_antisymm h1 h2) s (sortI_pw l) (p.trans (sortI_perm l).symm)
/-! ### need_number -/
abbrev BN (K : PySem.W.Frag) (x : String) : Value := .ref (He.ga K x)
abbrev GREAT : Int := 1000000000000000000000000000000
@[irreducible] def sp_need_number (K : PySem.W.Frag) : Sp := fun ws H Q E => ∃ (a : Addr) (vs : List Ve) (left : Int) (v : V) (d : PyData) (most : Int), ws = [.ref a, v, .int most] ∧ RhAt K H a vs left ∧ Dp K H v d ∧
  (isBet d left most = true → Q .non H) ∧ (isBet d left most = false → E (BN K "BadNumber") none H)
def t_need_number_0a_0 (K : PySem.W.Frag) (E : XK) : TS := (tRaise0 E (He.ga K "BadNumber"))

@[irreducible] def t_need_number_0 (K : PySem.W.Frag) (E : XK) : TS := (tIfS (tNot (tB (tCall (sp_is_between K) [] E (tCons (tVar 1) (tCons (tFld K (tVar 0) "own_left") (tCons (tVar 2) tNil))))))
    (t_need_number_0a_0 K E) tNext)

theorem pure_need_number {K : PySem.W.Frag} (T : RhC K) (ws : List V) (H : Hp) (Q : VK) (E : XK) (h : sp_need_number K ws H Q E) : t_need_number_0 K E { nx := fun _ H' => Q .non H', rt := Q } (start ["rhyme", "value", "most"] ws) H := by
  unfold sp_need_number at h
  obtain ⟨a, vs, left, v, d, most, rfl, R, hd, k1, k2⟩ := h
  obtain ⟨dx, tv, tr, h1, h2, h3⟩ := id R
  show t_need_number_0 K E _ [some (.ref a), some v, some (.int most)] H
  unfold t_need_number_0
  refine if_go (!(isBet d left most)) (fun Q q => ?_) (fun c => ?_) (fun c => ?_)
  · refine ⟨_, rfl, _, rfl, a, _, dx, _, _, rfl, h1, T.cl, T.nl, rhF_l _ _ _, _, rfl, ?_⟩
    unfold sp_is_between
    exact ⟨v, d, left, most, rfl, hd, _, rfl, q⟩
  · refine k2 ?_
    cases z : isBet d left most with
    | false => rfl
    | true => rw [z] at c; cases c
  · refine k1 ?_
    cases z : isBet d left most with
    | true => rfl
    | false => rw [z] at c; cases c
/-- an int that is between -/
theorem isBet_int {d : PyData} {a b : Int} (h : isBet d a b = true) : ∃ n, d = .int n ∧ a ≤ n ∧ n ≤ b := by
  cases d with
  | int n =>
    obtain ⟨h1, h2⟩ := Bool.and_eq_true_iff.mp (show (decide (a ≤ n) && decide (n ≤ b)) = true from h)
    exact ⟨n, rfl, of_decide_eq_true h1, of_decide_eq_true h2⟩
  | _ => cases h
theorem isBet_of {n a b : Int} (h1 : a ≤ n) (h2 : n ≤ b) : isBet (.int n) a b = true := by
  show (decide (a ≤ n) && decide (n ≤ b)) = true
  rw [decide_eq_true h1, decide_eq_true h2]
  rfl
/-! ### kept_of, kept -/
def keptL (vs : List Ve) (left n : Int) : List Int := sortI (Rh.rowL (rises vs) n left.toNat)
@[irreducible] def sp_kept_of (K : PySem.W.Frag) : Sp := fun ws H Q _ => ∃ (a : Addr) (vs : List Ve) (left n : Int), ws = [.ref a, .int n] ∧ RhAt K H a vs left ∧ RhOk vs left ∧
  ∀ (p : Addr) (H' : Hp), H p = none → Ex H H' → H' p = some (.lst ((keptL vs left n).map V.int)) → Q (.ref p) H'
def t_kept_of_0 (K : PySem.W.Frag) (E : XK) : TS := (tRet (tCB (rSorted K) (tCons (tLc (iRng1 (tCons (tFld K (tVar 0) "own_left") tNil)) (gName 2) tYes (tCall (sp_lifted K) [] E0 (tCons (tVar 0) (tCons (tVar 2) (tCons (tFld K (tVar 0) "own_left") (tCons (tVar 1) tNil))))) [2]) tNil)))

theorem pure_kept_of {K : PySem.W.Frag} (T : RhC K) (ws : List V) (H : Hp) (Q : VK) (E : XK) (h : sp_kept_of K ws H Q E) : t_kept_of_0 K E { nx := fun _ H' => Q .non H', rt := Q } (start ["rhyme", "n", "place"] ws) H := by
  unfold sp_kept_of at h
  obtain ⟨a, vs, left, n, rfl, R, ok, k⟩ := h
  obtain ⟨dx, tv, tr, h1, h2, h3⟩ := id R
  have lf := ok.lf
  have h9 : (9 : Nat) < sizeLine := by decide
  show t_kept_of_0 K E _ [some (.ref a), some (.int n), none] H
  refine ⟨_, rfl, a, _, dx, _, _, rfl, h1, T.cl, T.nl, rhF_l _ _ _, _, rfl, by omega, by omega, fun p hp => lc_map walk_range (fun i => .int (Rh.lift (rises vs) n (n - left).toNat left (i : Int))) hp (by omega) (fun _ _ => trivial) ?_ ?_⟩
  · rintro i x H3 H4 hi e ⟨rfl, rfl⟩ Q Zf q
    refine ⟨rfl, iteT (B := Zf H4) ?_⟩
    refine ⟨_, rfl, _, rfl, _, rfl, a, _, dx, _, _, rfl, e _ _ h1, T.cl, T.nl, rhF_l _ _ _, _, rfl, ?_⟩
    unfold sp_lifted
    refine ⟨a, vs, left, _, left, n, rfl, rh_ex e R, ok, by omega, by omega, fun H5 e5 => ?_⟩
    have e0 : (0 : Int) + (i : Int) = i := by omega
    rw [e0]
    exact q _ e5
  · intro H3 e h4
    have e4 : (List.range left.toNat).map (fun (i : Nat) => V.int (Rh.lift (rises vs) n (n - left).toNat left (i : Int))) = (Rh.rowL (rises vs) n left.toNat).map V.int := by
      unfold Rh.rowL
      rw [List.map_map]
      have el : ((left.toNat : Nat) : Int) = left := Int.toNat_of_nonneg (by omega)
      rw [el]
      rfl
    rw [e4] at h4
    refine ⟨p, _, rfl, SqL.of h4, ?_, fun ns' r hperm hsort hr => ?_⟩
    · unfold Rh.rowL
      rw [List.length_map, List.length_range]
      omega
    · rw [sort_uniq hperm hsort]
      exact k r _ (ex_free e hr) (ex_trans e (ex_new hr)) upd_same
@[irreducible] def sp_kept (K : PySem.W.Frag) : Sp := fun ws H Q E => ∃ (a : Addr) (vs : List Ve) (left : Int) (v : V) (d : PyData), ws = [.ref a, v] ∧ RhAt K H a vs left ∧ RhOk vs left ∧ Dp K H v d ∧
  (isBet d left GREAT = false → E (BN K "BadNumber") none H) ∧
  (∀ n, d = .int n → left ≤ n → n ≤ GREAT → ∀ (p : Addr) (H' : Hp), H p = none → Ex H H' → H' p = some (.lst ((keptL vs left n).map V.int)) → Q (.ref p) H')
def t_kept_1 (K : PySem.W.Frag) (E : XK) : TS := (tRet (tCall (sp_kept_of K) [] E (tCons (tVar 0) (tCons (tVar 1) tNil))))

def t_kept_0 (K : PySem.W.Frag) (E : XK) : TS := tSeq (tDrop (tCall (sp_need_number K) [(.int 1000000000000000000000000000000)] E (tCons (tVar 0) (tCons (tVar 1) tNil)))) (t_kept_1 K E)

theorem pure_kept {K : PySem.W.Frag} (ws : List V) (H : Hp) (Q : VK) (E : XK) (h : sp_kept K ws H Q E) : t_kept_0 K E { nx := fun _ H' => Q .non H', rt := Q } (start ["rhyme", "n"] ws) H := by
  unfold sp_kept at h
  obtain ⟨a, vs, left, v, d, rfl, R, ok, hd, k1, k2⟩ := h
  show t_kept_0 K E _ [some (.ref a), some v] H
  refine ⟨_, rfl, _, rfl, ?_⟩
  unfold sp_need_number
  refine ⟨a, vs, left, v, d, GREAT, rfl, R, hd, fun hb => ?_, k1⟩
  obtain ⟨n, rfl, hn1, hn2⟩ := isBet_int hb
  obtain rfl := dp_int hd
  refine ⟨_, rfl, _, rfl, ?_⟩
  unfold sp_kept_of
  exact ⟨a, vs, left, n, rfl, R, ok, k2 n rfl hn1 hn2⟩
/-! ### heir, gone -/
def heirF (vs : List Ve) (left n : Int) : Int := Rh.lift (rises vs) n (n - left).toNat left 0
@[irreducible] def sp_heir (K : PySem.W.Frag) : Sp := fun ws H Q E => ∃ (a : Addr) (vs : List Ve) (left : Int) (v : V) (d : PyData), ws = [.ref a, v] ∧ RhAt K H a vs left ∧ RhOk vs left ∧ Dp K H v d ∧
  (isBet d left GREAT = false → E (BN K "BadNumber") none H) ∧ (∀ n, d = .int n → left ≤ n → n ≤ GREAT → ∀ H' : Hp, Ex H H' → Q (.int (heirF vs left n)) H')
def t_heir_1 (K : PySem.W.Frag) (E : XK) : TS := (tRet (tCall (sp_lifted K) [] E (tCons (tVar 0) (tCons (tC (.int 0)) (tCons (tFld K (tVar 0) "own_left") (tCons (tVar 1) tNil))))))

def t_heir_0 (K : PySem.W.Frag) (E : XK) : TS := tSeq (tDrop (tCall (sp_need_number K) [(.int 1000000000000000000000000000000)] E (tCons (tVar 0) (tCons (tVar 1) tNil)))) (t_heir_1 K E)

theorem pure_heir {K : PySem.W.Frag} (T : RhC K) (ws : List V) (H : Hp) (Q : VK) (E : XK) (h : sp_heir K ws H Q E) : t_heir_0 K E { nx := fun _ H' => Q .non H', rt := Q } (start ["rhyme", "n"] ws) H := by
  unfold sp_heir at h
  obtain ⟨a, vs, left, v, d, rfl, R, ok, hd, k1, k2⟩ := h
  obtain ⟨dx, tv, tr, h1, h2, h3⟩ := id R
  show t_heir_0 K E _ [some (.ref a), some v] H
  refine ⟨_, rfl, _, rfl, ?_⟩
  unfold sp_need_number
  refine ⟨a, vs, left, v, d, GREAT, rfl, R, hd, fun hb => ?_, k1⟩
  obtain ⟨n, rfl, hn1, hn2⟩ := isBet_int hb
  obtain rfl := dp_int hd
  have lf := ok.lf
  refine ⟨_, rfl, _, rfl, a, _, dx, _, _, rfl, h1, T.cl, T.nl, rhF_l _ _ _, _, rfl, ?_⟩
  unfold sp_lifted
  exact ⟨a, vs, left, 0, left, n, rfl, R, ok, by omega, by omega, fun H' e => k2 n rfl hn1 hn2 H' e⟩
@[irreducible] def sp_gone (K : PySem.W.Frag) : Sp := fun ws H Q E => ∃ (a : Addr) (vs : List Ve) (left : Int) (v tv : V) (d td : PyData), ws = [.ref a, v, tv] ∧ RhAt K H a vs left ∧ RhOk vs left ∧ Dp K H v d ∧ Dp K H tv td ∧
  (isBet d left GREAT = false → E (BN K "BadNumber") none H) ∧ (∀ n, d = .int n → left ≤ n → n ≤ GREAT → (isBet td 1 (n - left) = false → E (BN K "BadTurn") none H) ∧
    ∀ t, td = .int t → 1 ≤ t → t ≤ n - left → ∀ H' : Hp, Ex H H' → Q (.int (Rh.goneF (rises vs) n t)) H')
def t_gone_1a_0 (K : PySem.W.Frag) (E : XK) : TS := (tRaise0 E (He.ga K "BadTurn"))

def t_gone_3 (K : PySem.W.Frag) (E : XK) : TS := (tRet (tCall (sp_lifted K) [] E (tCons (tVar 0) (tCons (tOp oMod (tOp oAdd (tOp oSub (tVar 3) (tC (.int 1))) (tOp (rIxT K) (tFld K (tVar 0) "rises") (tOp oMod (tOp oSub (tVar 2) (tC (.int 1))) (tCB (cLen K) (tCons (tFld K (tVar 0) "rises") tNil))))) (tVar 3)) (tCons (tVar 3) (tCons (tVar 1) tNil))))))

def t_gone_2 (K : PySem.W.Frag) (E : XK) : TS := tSeq (tAsg (tOp oAdd (tOp oSub (tVar 1) (tVar 2)) (tC (.int 1))) (gName 3)) (t_gone_3 K E)

@[irreducible] def t_gone_1 (K : PySem.W.Frag) (E : XK) : TS := tSeq (tIfS (tNot (tB (tCall (sp_is_between K) [] E (tCons (tVar 2) (tCons (tC (.int 1)) (tCons (tOp oSub (tVar 1) (tFld K (tVar 0) "own_left")) tNil))))))
    (t_gone_1a_0 K E) tNext) (t_gone_2 K E)

def t_gone_0 (K : PySem.W.Frag) (E : XK) : TS := tSeq (tDrop (tCall (sp_need_number K) [(.int 1000000000000000000000000000000)] E (tCons (tVar 0) (tCons (tVar 1) tNil)))) (t_gone_1 K E)

theorem pure_gone {K : PySem.W.Frag} (T : RhC K) (ws : List V) (H : Hp) (Q : VK) (E : XK) (h : sp_gone K ws H Q E) : t_gone_0 K E { nx := fun _ H' => Q .non H', rt := Q } (start ["rhyme", "n", "turn", "size"] ws) H := by
  unfold sp_gone at h
  obtain ⟨a, vs, left, v, tv, d, td, rfl, R, ok, hd, htd, k1, k2⟩ := h
  obtain ⟨dx, vv, tr, h1, h2, h3⟩ := id R
  have hl : ((rises vs).map V.int).length = vs.length := by rw [List.length_map, rises_len]
  show t_gone_0 K E _ [some (.ref a), some v, some tv, none] H
  refine ⟨_, rfl, _, rfl, ?_⟩
  unfold sp_need_number
  refine ⟨a, vs, left, v, d, GREAT, rfl, R, hd, fun hb => ?_, k1⟩
  obtain ⟨n, rfl, hn1, hn2⟩ := isBet_int hb
  obtain rfl := dp_int hd
  obtain ⟨k3, k4⟩ := k2 n rfl hn1 hn2
  have lf := ok.lf
  have l1 := ok.l1
  show t_gone_1 K E { nx := fun _ H' => Q .non H', rt := Q } [some (.ref a), some (.int n), some tv, none] H
  unfold t_gone_1
  refine if_go (!(isBet td 1 (n - left))) (fun Q q => ?_) (fun c => ?_) (fun c => ?_)
  · refine ⟨_, rfl, _, rfl, _, rfl, a, _, dx, _, _, rfl, h1, T.cl, T.nl, rhF_l _ _ _, _, _, rfl, rfl, ?_⟩
    unfold sp_is_between
    exact ⟨tv, td, 1, n - left, rfl, htd, _, rfl, q⟩
  · refine k3 ?_
    cases z : isBet td 1 (n - left) with
    | false => rfl
    | true => rw [z] at c; cases c
  · have hb2 : isBet td 1 (n - left) = true := by
      cases z : isBet td 1 (n - left) with
      | true => rfl
      | false => rw [z] at c; cases c
    obtain ⟨t, rfl, ht1, ht2⟩ := isBet_int hb2
    obtain rfl := dp_int htd
    show t_gone_2 K E { nx := fun _ H' => Q .non H', rt := Q } [some (.ref a), some (.int n), some (.int t), none] H
    refine ⟨_, rfl, _, rfl, _, _, rfl, rfl, _, _, rfl, rfl, ?_⟩
    show t_gone_3 K E { nx := fun _ H' => Q .non H', rt := Q } [some (.ref a), some (.int n), some (.int t), some (.int (n - t + 1))] H
    have er := rise_at (R := rises vs) (by rw [rises_len]; omega) (t - 1)
    rw [rises_len] at er
    refine ⟨_, rfl, _, rfl, _, _, rfl, rfl, _, rfl, a, _, dx, _, _, rfl, h1, T.cl, T.nr, rhF_r _ _ _, _, rfl, _, _, rfl, rfl, _, rfl, a, _, dx, _, _, rfl, h1, T.cl, T.nr, rhF_r _ _ _, tr, _, rfl, .inr h3, _, _, rfl, rfl, (by rw [hl]; omega), ?_⟩
    rw [hl]
    refine ⟨tr, _, _, _, rfl, rfl, h3, er, _, _, rfl, rfl, _, rfl, _, _, rfl, rfl, (by omega), _, rfl, _, rfl, ?_⟩
    unfold sp_lifted
    have b0 := Int.emod_nonneg (n - t + 1 - 1 + Rh.rI (rises vs) (t - 1)) (show n - t + 1 ≠ 0 by omega)
    have b1 := Int.emod_lt_of_pos (n - t + 1 - 1 + Rh.rI (rises vs) (t - 1)) (show (0 : Int) < n - t + 1 by omega)
    refine ⟨a, vs, left, _, n - t + 1, n, rfl, R, ok, b0, b1, fun H' e => ?_⟩
    have e1 : n - (n - t + 1) = t - 1 := by omega
    have e2 : n - t + 1 - 1 = n - t := by omega
    rw [e1, e2]
    exact k4 t rfl ht1 ht2 H' e

end Z
namespace Z
open PySem PySem.Spec PyProof.Rows L2
local macro_rules | `(tactic| walk_at "look") => `(tactic| first | assumption | exact upd_same | exact SqL.of (by assumption) | exact SqT.of (by assumption) | exact SqL.of upd_same | exact SqT.of upd_same)
local macro_rules | `(tactic| walk_at "at") => `(tactic| first | exact at0 | exact at1 | exact at2 | exact at3 | exact ix0 | exact ix1 | assumption | exact atI_nat (by rfl))
local macro_rules | `(tactic| walk_at "sd") => `(tactic| ((try dsimp only); first | assumption | omega | (unfold CMul; omega) | (unfold CDiv; omega) | (unfold CPow; decide) | decide))
local macro_rules | `(tactic| walk_at "st") => `(tactic| first
  | (refine ⟨_, rfl, ?_⟩)
  | (refine ⟨_, _, rfl, rfl, ?_⟩)
  | (refine ⟨rfl, ?_⟩)
  | (refine .inl ⟨_, rfl, ?_⟩)
  | (refine ⟨_, _, _, _, rfl, rfl, (by walk_at "look"), (by walk_at "at"), ?_⟩)
  | (refine ⟨_, _, rfl, .inl (by walk_at "look"), ?_⟩)
  | (refine And.intro (by walk_at "sd") ?_)
  | fail "no step")
local macro_rules | `(tactic| walk_at "go") => `(tactic| repeat' (walk_at "st"))
local macro_rules | `(tactic| walk_at "ans") => `(tactic| (intro Q q; (repeat' (walk_at "st")); exact q))

/-! ### order_of, order -/
@[irreducible] def sp_order_of (K : PySem.W.Frag) : Sp := fun ws H Q _ => ∃ (a : Addr) (vs : List Ve) (left : Int) (N : Nat), ws = [.ref a, .int N] ∧ RhAt K H a vs left ∧ RhOk vs left ∧ left ≤ N ∧ N ≤ 5000 ∧
  ∀ (p q r : Addr) (H' : Hp), H q = none → H r = none → q ≠ r → Ex H H' → H' p = some (.tup [.ref q, .ref r]) → H' q = some (.lst ((Rh.st (rises vs) N (N - left.toNat)).1.map V.int)) → H' r = some (.lst ((Rh.st (rises vs) N (N - left.toNat)).2.map V.int)) → Q (.ref p) H'
def t_order_of_1a_3 (K : PySem.W.Frag) (E : XK) : TS := (tAsg (tOp rCat (tSl (rSlL K) (tVar 2) (tPart (tOp oAdd (tVar 5) (tC (.int 1)))) tNoPart) (tSl (rSlL K) (tVar 2) tNoPart (tPart (tVar 5)))) (gName 2))

def t_order_of_1a_2 (K : PySem.W.Frag) (E : XK) : TS := tSeq (tDrop (tBM K "list" rAppend (tVar 3) (tCons (tOp (rIxL K) (tVar 2) (tVar 5)) tNil))) (t_order_of_1a_3 K E)

def t_order_of_1a_1 (K : PySem.W.Frag) (E : XK) : TS := tSeq (tAsg (tOp oMod (tOp oSub (tVar 4) (tC (.int 1))) (tCB (cLen K) (tCons (tVar 2) tNil))) (gName 5)) (t_order_of_1a_2 K E)

def t_order_of_1a_0 (K : PySem.W.Frag) (E : XK) : TS := tSeq (tAsg (tOp (rIxT K) (tFld K (tVar 0) "rises") (tOp oMod (tCB (cLen K) (tCons (tVar 3) tNil)) (tCB (cLen K) (tCons (tFld K (tVar 0) "rises") tNil)))) (gName 4)) (t_order_of_1a_1 K E)

def t_order_of_2 (K : PySem.W.Frag) (E : XK) : TS := (tRet (tTup (tCons (tVar 3) (tCons (tVar 2) tNil))))

@[irreducible] def t_order_of_1 (K : PySem.W.Frag) (E : XK) : TS := tSeq (tWhile (tTest (tOp oGt (tCB (cLen K) (tCons (tVar 2) tNil)) (tFld K (tVar 0) "own_left")))
    (t_order_of_1a_0 K E)) (t_order_of_2 K E)

def t_order_of_0 (K : PySem.W.Frag) (E : XK) : TS := tSeq (tPar 2 3 (tCons (tLstRg (tRg1 (tVar 1))) (tCons (tLst tNil) tNil))) (t_order_of_1 K E)

theorem cut_from (xs : List V) (i : Nat) (h : i ≤ xs.length) : cutV xs (some ((i : Int))) none = xs.drop i := by
  show (xs.drop (HT.sIx xs.length 0 (some (i : Int)))).take (xs.length - HT.sIx xs.length 0 (some (i : Int))) = _
  rw [HT.sIx_nat, Nat.min_eq_left h]
  exact List.take_of_length_le (by rw [List.length_drop]; exact Nat.le_refl _)
theorem cut_to (xs : List V) (i : Nat) (h : i ≤ xs.length) : cutV xs none (some ((i : Int))) = xs.take i := by
  show (xs.drop 0).take (HT.sIx xs.length xs.length (some (i : Int)) - 0) = _
  rw [HT.sIx_nat, Nat.min_eq_left h, List.drop_zero, Nat.sub_zero]
theorem rgV_nat (N : Nat) : rgV 0 (N : Int) = (Rh.st [] N 0).2.map V.int := by
  unfold rgV
  show _ = ((List.range N).map fun (i : Nat) => (i : Int)).map V.int
  rw [List.map_map]
  have e : ((N : Int) - 0).toNat = N := by omega
  rw [e]
  refine List.map_congr_left fun i _ => ?_
  show V.int (0 + (i : Int)) = V.int (i : Int)
  congr 1
  omega
def OrdSt (K : PySem.W.Frag) (H0 : Hp) (a : Addr) (vs : List Ve) (left : Int) (N : Nat) (σ : L2.St) (H : Hp) : Prop := ∃ (j : Nat) (r q : Addr) (u4 u5 : Option V),
  σ = [some (.ref a), some (.int N), some (.ref r), some (.ref q), u4, u5] ∧ j + left.toNat ≤ N ∧ Ex H0 H ∧ H0 q = none ∧ H0 r = none ∧ q ≠ r ∧ H q = some (.lst ((Rh.st (rises vs) N j).1.map V.int)) ∧ H r = some (.lst ((Rh.st (rises vs) N j).2.map V.int))
/-- the length of the row that is in -/
def ordMu (σ : L2.St) (H : Hp) : Nat := match σ with
  | [_, _, some (.ref r), _, _, _] => (match H r with
    | some (.lst xs) => xs.length
    | _ => 0)
  | _ => 0
theorem ordMu_of {H : Hp} {r : Addr} {xs : List V} {x y z u w : Option V} (h : H r = some (.lst xs)) : ordMu [x, y, some (.ref r), z, u, w] H = xs.length := by
  show (match H r with | some (.lst xs) => xs.length | _ => 0) = _
  rw [h]
theorem order_turn {K : PySem.W.Frag} {E : XK} {D : Ends} {H0 H : Hp} {a r q : Addr} {vs : List Ve} {left : Int} {N j : Nat} {u4 u5 : Option V} (R : RhAt K H0 a vs left) (ok : RhOk vs left) (T : RhC K)
    (hN : N ≤ 5000) (hj : j + left.toNat < N) (e : Ex H0 H) (nq : H0 q = none) (nr : H0 r = none) (qr : q ≠ r) (hq : H q = some (.lst ((Rh.st (rises vs) N j).1.map V.int))) (hr : H r = some (.lst ((Rh.st (rises vs) N j).2.map V.int)))
    (k : ∀ σ H', OrdSt K H0 a vs left N σ H' → ordMu σ H' < N - j → D.nx σ H') :
    t_order_of_1a_0 K E D [some (.ref a), some (.int N), some (.ref r), some (.ref q), u4, u5] H := by
  have l1 := ok.l1
  have lf := ok.lf
  obtain ⟨dx, tv, tr, h1, h2, h3⟩ := id (rh_ex e R)
  have h5000 : (10001 : Nat) ≤ sizeLine := by decide
  have hl : ((rises vs).map V.int).length = vs.length := by rw [List.length_map, rises_len]
  have hlen1 := Rh.st_len1 (rises vs) N j
  have hlen2 := Rh.st_len (rises vs) N j (by omega)
  have er := rise_at (R := rises vs) (by rw [rises_len]; omega) (j : Int)
  rw [rises_len] at er
  refine ⟨_, rfl, a, _, dx, _, _, rfl, h1, T.cl, T.nr, rhF_r _ _ _, _, rfl, q, _, rfl, .inl (SqL.of hq), _, rfl, a, _, dx, _, _, rfl, h1, T.cl, T.nr, rhF_r _ _ _, tr, _, rfl, .inr h3, _, _, rfl, rfl, (by rw [hl]; omega), ?_⟩
  rw [hl, List.length_map, hlen1]
  refine ⟨tr, _, _, _, rfl, rfl, h3, er, ?_⟩
  show t_order_of_1a_1 K E D [some (.ref a), some (.int N), some (.ref r), some (.ref q), some (.int (Rh.rI (rises vs) j)), u5] H
  refine ⟨_, rfl, _, _, rfl, rfl, _, rfl, r, _, rfl, .inl (SqL.of hr), _, _, rfl, rfl, ?_, ?_⟩
  · rw [List.length_map, hlen2]
    omega
  rw [List.length_map]
  have hlt : Rh.atR (Rh.rI (rises vs) j) (Rh.st (rises vs) N j).2.length < (Rh.st (rises vs) N j).2.length := Rh.atR_lt (by omega)
  have hae : (Rh.rI (rises vs) j - 1) % ((Rh.st (rises vs) N j).2.length : Int) = ((Rh.atR (Rh.rI (rises vs) j) (Rh.st (rises vs) N j).2.length : Nat) : Int) := by
    unfold Rh.atR
    exact (Int.toNat_of_nonneg (Int.emod_nonneg _ (by omega))).symm
  show t_order_of_1a_2 K E D [some (.ref a), some (.int N), some (.ref r), some (.ref q), some (.int (Rh.rI (rises vs) j)), some (.int ((Rh.rI (rises vs) j - 1) % ((Rh.st (rises vs) N j).2.length : Int)))] H
  rw [hae]
  generalize hA : Rh.atR (Rh.rI (rises vs) j) (Rh.st (rises vs) N j).2.length = A at hlt
  show t_order_of_1a_2 K E D [some (.ref a), some (.int N), some (.ref r), some (.ref q), some (.int (Rh.rI (rises vs) j)), some (.int (A : Nat))] H
  have hg : ((Rh.st (rises vs) N j).2.map V.int)[A]? = some (.int ((Rh.st (rises vs) N j).2.getD A 0)) := by
    rw [List.getElem?_map, List.getElem?_eq_getElem hlt, List.getD_eq_getElem?_getD, List.getElem?_eq_getElem hlt]
    rfl
  refine ⟨_, rfl, .inl ⟨rfl, _, SqL.of hq⟩, _, rfl, _, rfl, r, _, _, _, rfl, rfl, SqL.of hr, at_of rfl hg, ?_⟩
  refine ⟨q, _, _, rfl, rfl, hq, (by rw [List.length_map, hlen1]; omega), ?_⟩
  have hr2 : (upd H q (.lst ((Rh.st (rises vs) N j).1.map V.int ++ [.int ((Rh.st (rises vs) N j).2.getD A 0)]))) r = some (.lst ((Rh.st (rises vs) N j).2.map V.int)) := by
    rw [upd_ne qr.symm]
    exact hr
  have hq2 : (upd H q (.lst ((Rh.st (rises vs) N j).1.map V.int ++ [.int ((Rh.st (rises vs) N j).2.getD A 0)]))) q = some (.lst ((Rh.st (rises vs) N (j + 1)).1.map V.int)) := by
    rw [upd_same]
    show _ = some (HO.lst (((Rh.st (rises vs) N j).1 ++ [(Rh.st (rises vs) N j).2.getD (Rh.atR (Rh.rI (rises vs) j) (Rh.st (rises vs) N j).2.length) 0]).map V.int))
    rw [hA, List.map_append]
    rfl
  have e2 : Ex H0 (upd H q (.lst ((Rh.st (rises vs) N j).1.map V.int ++ [.int ((Rh.st (rises vs) N j).2.getD A 0)]))) := ex_mut e nq
  generalize upd H q (.lst ((Rh.st (rises vs) N j).1.map V.int ++ [.int ((Rh.st (rises vs) N j).2.getD A 0)])) = H2 at hr2 hq2 e2
  show t_order_of_1a_3 K E D [some (.ref a), some (.int N), some (.ref r), some (.ref q), some (.int (Rh.rI (rises vs) j)), some (.int (A : Nat))] H2
  have c1 : cutV ((Rh.st (rises vs) N j).2.map V.int) (some ((A : Int) + 1)) none = ((Rh.st (rises vs) N j).2.drop (A + 1)).map V.int := by
    rw [show (A : Int) + 1 = ((A + 1 : Nat) : Int) from by omega, cut_from _ _ (by rw [List.length_map]; omega), List.map_drop]
  have c2 : cutV ((Rh.st (rises vs) N j).2.map V.int) none (some (A : Int)) = ((Rh.st (rises vs) N j).2.take A).map V.int := by
    rw [cut_to _ _ (by rw [List.length_map]; omega), List.map_take]
  refine ⟨_, rfl, _, rfl, _, _, rfl, rfl, _, rfl, r, _, rfl, SqL.of hr2, fun p1 hp1 => ?_⟩
  rw [c1]
  have e3 := ex_new (o := .lst (((Rh.st (rises vs) N j).2.drop (A + 1)).map V.int)) hp1
  refine ⟨_, rfl, _, rfl, _, rfl, r, _, rfl, SqL.of (e3 _ _ hr2), fun p2 hp2 => ?_⟩
  rw [c2]
  have e4 := ex_new (o := .lst (((Rh.st (rises vs) N j).2.take A).map V.int)) hp2
  refine ⟨p1, p2, _, _, rfl, rfl, e4 _ _ upd_same, upd_same, ?_, fun p3 hp3 => ?_⟩
  · rw [List.length_map, List.length_map, List.length_drop, List.length_take]
    omega
  have e5 := ex_new (o := .lst (((Rh.st (rises vs) N j).2.drop (A + 1)).map V.int ++ ((Rh.st (rises vs) N j).2.take A).map V.int)) hp3
  have e25 := ex_trans e3 (ex_trans e4 e5)
  have hlen3 := Rh.st_len (rises vs) N (j + 1) (by omega)
  have hrow : ((Rh.st (rises vs) N j).2.drop (A + 1)).map V.int ++ ((Rh.st (rises vs) N j).2.take A).map V.int = (Rh.st (rises vs) N (j + 1)).2.map V.int := by
    show _ = (Rh.cut (Rh.st (rises vs) N j).2 (Rh.atR (Rh.rI (rises vs) j) (Rh.st (rises vs) N j).2.length)).map V.int
    rw [hA]
    unfold Rh.cut
    rw [List.map_append]
  rw [hrow] at e5 e25 ⊢
  refine k _ _ ⟨j + 1, p3, q, _, _, rfl, by omega, ex_trans e2 e25, nq, ex_free (ex_trans e2 (ex_trans e3 e4)) hp3, ?_, e25 _ _ hq2, upd_same⟩ ?_
  · exact ne_of_none (ex_trans e3 e4 _ _ hq2) hp3
  · have := ordMu_of (x := some (.ref a)) (y := some (.int N)) (z := some (.ref q)) (u := some (.int (Rh.rI (rises vs) j))) (w := some (.int (A : Nat))) (show (upd (upd (upd H2 p1 (.lst (((Rh.st (rises vs) N j).2.drop (A + 1)).map V.int))) p2 (.lst (((Rh.st (rises vs) N j).2.take A).map V.int))) p3 (.lst ((Rh.st (rises vs) N (j + 1)).2.map V.int))) p3 = _ from upd_same)
    refine Nat.lt_of_le_of_lt (Nat.le_of_eq this) ?_
    rw [List.length_map, hlen3]
    omega
theorem pure_order_of {K : PySem.W.Frag} (T : RhC K) (ws : List V) (H : Hp) (Q : VK) (E : XK) (h : sp_order_of K ws H Q E) : t_order_of_0 K E { nx := fun _ H' => Q .non H', rt := Q } (start ["rhyme", "n", "row", "found", "rise", "at"] ws) H := by
  unfold sp_order_of at h
  obtain ⟨a, vs, left, N, rfl, R, ok, hN, hN2, k⟩ := h
  obtain ⟨dx, tv, tr, h1, h2, h3⟩ := id R
  have lf := ok.lf
  show t_order_of_0 K E _ [some (.ref a), some (.int N), none, none, none, none] H
  refine ⟨_, rfl, _, rfl, RgOk.of_le (by omega) (by omega) (by omega) (by omega), fun r hr => ⟨Nat.zero_le _, fun q hq => ⟨_, _, rfl, ?_⟩⟩⟩
  rw [rgV_nat] at hq ⊢
  show t_order_of_1 K E { nx := fun _ H' => Q .non H', rt := Q } [some (.ref a), some (.int N), some (.ref r), some (.ref q), none, none] _
  have e1 := ex_new (o := .lst ((Rh.st [] N 0).2.map V.int)) hr
  have e2 := ex_new (o := .lst []) hq
  unfold t_order_of_1
  refine while_by (OrdSt K H a vs left N) ordMu ⟨0, r, q, none, none, rfl, by omega, ex_trans e1 e2, ex_free e1 hq, hr, (ne_of_none upd_same hq).symm, upd_same, e2 _ _ upd_same⟩ ?_ ?_
  · rintro σ H' ⟨j, r, q, u4, u5, rfl, hj, e, nq, nr, qr, hq, hr⟩
    have hlen2 := Rh.st_len (rises vs) N j (by omega)
    refine ⟨_, rfl, r, _, rfl, .inl (SqL.of hr), _, rfl, a, _, dx, _, _, rfl, e _ _ h1, T.cl, T.nl, rhF_l _ _ _, _, _, rfl, rfl, _, rfl, ?_⟩
    rw [List.length_map, hlen2]
    by_cases c : left < ((N - j : Nat) : Int)
    · refine iteT' (decide_eq_true c) ?_
      refine order_turn (E := E) R ok T hN2 (by omega) e nq nr qr hq hr fun σ' H'' hS hM => ⟨hS, ?_⟩
      rw [ordMu_of hr, List.length_map, hlen2]
      exact hM
    · refine iteF' (decide_eq_false c) ?_
      have ej : j = N - left.toNat := by omega
      subst ej
      refine ⟨_, rfl, _, rfl, (by show 2 ≤ sizeLine; decide), fun p hp => ?_⟩
      have e3 := ex_new (o := .tup [.ref q, .ref r]) hp
      exact k p q r _ nq nr qr (ex_trans e e3) upd_same (e3 _ _ hq) (e3 _ _ hr)
  · rintro σ H' Q Q' hq ⟨x, hx, p, ys, h1, h2, y, hy, a1, C, dx1, fs, v, h3, h4, h5, h6, h7, i, j, h8, h9, b, hb, q⟩
    exact ⟨x, hx, p, ys, h1, h2, y, hy, a1, C, dx1, fs, v, h3, h4, h5, h6, h7, i, j, h8, h9, b, hb, hq _ _ q⟩
@[irreducible] def sp_order (K : PySem.W.Frag) : Sp := fun ws H Q E => ∃ (a : Addr) (vs : List Ve) (left : Int) (v : V) (d : PyData), ws = [.ref a, v] ∧ RhAt K H a vs left ∧ RhOk vs left ∧ Dp K H v d ∧
  (isBet d left 2000 = false → E (BN K "BadNumber") none H) ∧
  (∀ N : Nat, d = .int N → left ≤ N → N ≤ 2000 → ∀ (p : Addr) (H' : Hp), H p = none → Ex H H' → H' p = some (.lst ((Rh.st (rises vs) N (N - left.toNat)).1.map V.int)) → Q (.ref p) H')
def t_order_1 (K : PySem.W.Frag) (E : XK) : TS := (tRet (tOp (rIxT K) (tCall (sp_order_of K) [] E (tCons (tVar 0) (tCons (tVar 1) tNil))) (tC (.int 0))))

def t_order_0 (K : PySem.W.Frag) (E : XK) : TS := tSeq (tDrop (tCall (sp_need_number K) [] E (tCons (tVar 0) (tCons (tVar 1) (tCons (tC (.int 2000)) tNil))))) (t_order_1 K E)

theorem pure_order {K : PySem.W.Frag} (ws : List V) (H : Hp) (Q : VK) (E : XK) (h : sp_order K ws H Q E) : t_order_0 K E { nx := fun _ H' => Q .non H', rt := Q } (start ["rhyme", "n"] ws) H := by
  unfold sp_order at h
  obtain ⟨a, vs, left, v, d, rfl, R, ok, hd, k1, k2⟩ := h
  have lf := ok.lf
  show t_order_0 K E _ [some (.ref a), some v] H
  refine ⟨_, rfl, _, rfl, ?_⟩
  unfold sp_need_number
  refine ⟨a, vs, left, v, d, 2000, rfl, R, hd, fun hb => ?_, k1⟩
  obtain ⟨n, rfl, hn1, hn2⟩ := isBet_int hb
  obtain rfl := dp_int hd
  obtain ⟨N, rfl⟩ := Int.eq_ofNat_of_zero_le (show 0 ≤ n by omega)
  show t_order_1 K E { nx := fun _ H' => Q .non H', rt := Q } [some (.ref a), some (.int N)] H
  refine ⟨_, rfl, _, rfl, ?_⟩
  unfold sp_order_of
  refine ⟨a, vs, left, N, rfl, R, ok, hn1, by omega, fun p q r H' nq nr qr e hp hq hr => ?_⟩
  exact ⟨p, _, 0, _, rfl, rfl, SqT.of hp, at0, k2 N rfl hn1 (by omega) q H' nq e hq⟩

end Z
namespace Z
open PySem PySem.Spec PyProof.Rows L2
local macro_rules | `(tactic| walk_at "look") => `(tactic| first | assumption | exact upd_same | exact SqL.of (by assumption) | exact SqT.of (by assumption) | exact SqL.of upd_same | exact SqT.of upd_same)
local macro_rules | `(tactic| walk_at "at") => `(tactic| first | exact at0 | exact at1 | exact at2 | exact at3 | exact ix0 | exact ix1 | assumption | exact atI_nat (by rfl))
local macro_rules | `(tactic| walk_at "sd") => `(tactic| ((try dsimp only); first | assumption | omega | (unfold CMul; omega) | (unfold CDiv; omega) | (unfold CPow; decide) | decide))
local macro_rules | `(tactic| walk_at "st") => `(tactic| first
  | (refine ⟨_, rfl, ?_⟩)
  | (refine ⟨_, _, rfl, rfl, ?_⟩)
  | (refine ⟨rfl, ?_⟩)
  | (refine .inl ⟨_, rfl, ?_⟩)
  | (refine ⟨_, _, _, _, rfl, rfl, (by walk_at "look"), (by walk_at "at"), ?_⟩)
  | (refine ⟨_, _, rfl, .inl (by walk_at "look"), ?_⟩)
  | (refine And.intro (by walk_at "sd") ?_)
  | fail "no step")
local macro_rules | `(tactic| walk_at "go") => `(tactic| repeat' (walk_at "st"))
local macro_rules | `(tactic| walk_at "ans") => `(tactic| (intro Q q; (repeat' (walk_at "st")); exact q))

/-! ### a row turned -/
def rotN (x : List Int) (s : Nat) : List Int := x.drop s ++ x.take s
theorem rotN_len (x : List Int) (s : Nat) (h : s ≤ x.length) : (rotN x s).length = x.length := by
  unfold rotN
  rw [List.length_append, List.length_drop, List.length_take]
  omega
theorem rotN_get (x : List Int) (s i : Nat) (h : s ≤ x.length) (hi : i < x.length) : (rotN x s).getD i 0 = x.getD ((i + s) % x.length) 0 := by
  unfold rotN
  rw [List.getD_eq_getElem?_getD, List.getD_eq_getElem?_getD]
  by_cases c : i < x.length - s
  · rw [List.getElem?_append_left (by rw [List.length_drop]; exact c), List.getElem?_drop, Nat.mod_eq_of_lt (by omega)]
    congr 2
    omega
  · rw [List.getElem?_append_right (by rw [List.length_drop]; omega), List.length_drop, List.getElem?_take, if_pos (by omega)]
    have e : (i + s) % x.length = i - (x.length - s) := by
      rw [Nat.mod_eq_sub_mod (by omega), Nat.mod_eq_of_lt (by omega)]
      omega
    rw [e]
theorem ext_getD {x y : List Int} (hl : x.length = y.length) (h : ∀ i, i < x.length → x.getD i 0 = y.getD i 0) : x = y := by
  refine List.ext_getElem? fun i => ?_
  by_cases c : i < x.length
  · have := h i c
    rw [getD_at (l := x) (d := 0) c, getD_at (l := y) (d := 0) (by omega), this]
  · rw [List.getElem?_eq_none_iff.mpr (by omega), List.getElem?_eq_none_iff.mpr (by omega)]
/-- x is l turned by z -/
structure IsRot (l : List Int) (z : Int) (x : List Int) : Prop where
  len : x.length = l.length
  get : ∀ i : Nat, i < l.length → x.getD i 0 = l.getD ((z + (i : Int)) % (l.length : Int)).toNat 0
theorem IsRot.zero (l : List Int) : IsRot l 0 l := ⟨rfl, fun i hi => by
  have e : (0 + (i : Int)) % (l.length : Int) = (i : Int) := by
    rw [Int.zero_add]
    exact Int.emod_eq_of_lt (by omega) (by omega)
  rw [e]
  rfl⟩
theorem IsRot.turn {l x : List Int} {z : Int} (h : IsRot l z x) (s : Nat) (hs : s ≤ l.length) (h0 : 0 < l.length) : IsRot l (z + (s : Int)) (rotN x s) := by
  refine ⟨?_, fun i hi => ?_⟩
  · rw [rotN_len _ _ (by rw [h.len]; exact hs), h.len]
  · rw [rotN_get _ _ _ (by rw [h.len]; exact hs) (by rw [h.len]; exact hi), h.len, h.get _ (Nat.mod_lt _ h0)]
    congr 2
    have e : ((((i + s) % l.length : Nat) : Nat) : Int) = ((i : Int) + (s : Int)) % (l.length : Int) := by
      rw [Int.natCast_emod, Int.natCast_add]
    rw [e, Int.add_emod_emod]
    congr 1
    omega
theorem IsRot.per {l x : List Int} {z w : Int} (h : IsRot l z x) (e : w = z - (l.length : Int)) : IsRot l w x := ⟨h.len, fun i hi => by
  rw [h.get i hi, e]
  congr 2
  have : z - (l.length : Int) + (i : Int) = z + (i : Int) - (l.length : Int) := by omega
  rw [this, Int.sub_emod_right]⟩
theorem IsRot.left {l x : List Int} {z : Int} (h : IsRot l z x) (h0 : 0 < l.length) : IsRot l (z + 1) (rotN x 1) := h.turn 1 (by omega) h0
theorem IsRot.right {l x : List Int} {z : Int} (h : IsRot l z x) (h0 : 0 < l.length) : IsRot l (z - 1) (rotN x (l.length - 1)) :=
  (h.turn (l.length - 1) (by omega) h0).per (by omega)
theorem IsRot.first {l x : List Int} {r : Int} (h : IsRot l (r - 1) x) (h1 : 1 < l.length) : x.getD 0 0 = l.getD (Rh.atR r l.length) 0 ∧ x.drop 1 = Rh.cut l (Rh.atR r l.length) := by
  constructor
  · rw [h.get 0 (by omega)]
    unfold Rh.atR
    congr 3
    omega
  · refine ext_getD ?_ fun i hi => ?_
    · rw [List.length_drop, Rh.cut_length (Rh.atR_lt (by omega)), h.len]
    · rw [List.length_drop, h.len] at hi
      rw [Rh.cut_get (by omega), List.getD_eq_getElem?_getD, List.getElem?_drop, ← List.getD_eq_getElem?_getD, h.get _ (by omega)]
      congr 3
      omega
theorem IsRot.last {l x : List Int} {r : Int} (h : IsRot l r x) (h1 : 1 < l.length) : x.getD (l.length - 1) 0 = l.getD (Rh.atR r l.length) 0 ∧ x.dropLast = Rh.cut l (Rh.atR r l.length) := by
  constructor
  · rw [h.get _ (by omega)]
    unfold Rh.atR
    congr 2
    have e : r + ((l.length - 1 : Nat) : Int) = r - 1 + (l.length : Int) := by omega
    rw [e, Int.add_emod_right]
  · refine ext_getD ?_ fun i hi => ?_
    · rw [List.length_dropLast, Rh.cut_length (Rh.atR_lt (by omega)), h.len]
    · rw [List.length_dropLast, h.len] at hi
      rw [Rh.cut_get (by omega), List.getD_eq_getElem?_getD, List.getElem?_dropLast, if_pos (by rw [h.len]; exact hi), ← List.getD_eq_getElem?_getD, h.get _ (by omega)]
      congr 3
      omega
/-! ### the law's round -/
@[irreducible] def sp_law_round (K : PySem.W.Frag) : Sp := fun ws H Q _ => ∃ (t : V) (vs : List Ve) (left : Int) (N : Nat), ws = [t, .int N] ∧ Dp K H t (tD vs left) ∧ RhOk vs left ∧ left ≤ N ∧ N ≤ 5000 ∧
  ∀ (p q r : Addr) (H' : Hp), H p = none → H q = none → H r = none → q ≠ r → Ex H H' → H' p = some (.lst [.ref q, .ref r]) → H' q = some (.lst ((Rh.st (rises vs) N (N - left.toNat)).1.map V.int)) → H' r = some (.lst ((Rh.st (rises vs) N (N - left.toNat)).2.map V.int)) → Q (.ref p) H'
def t_law_round_2a_1a_0 (K : PySem.W.Frag) (E : XK) : TS := (tAsg (tIf (tTest (tOp rEq (tVar 4) (tC (.str "on")))) (tOp rCat (tSl (rSlL K) (tVar 2) (tPart (tC (.int 1))) tNoPart) (tSl (rSlL K) (tVar 2) tNoPart (tPart (tC (.int 1))))) (tOp rCat (tSl (rSlL K) (tVar 2) (tPart (tUn oNeg (tC (.int 1)))) tNoPart) (tSl (rSlL K) (tVar 2) tNoPart (tPart (tUn oNeg (tC (.int 1))))))) (gName 2))

def t_law_round_2a_2a_0 (K : PySem.W.Frag) (E : XK) : TS := (tDrop (tBM K "list" rAppend (tVar 3) (tCons (tBM K "list" rPopAt (tVar 2) (tCons (tC (.int 0)) tNil)) tNil)))

def t_law_round_2a_2b_0 (K : PySem.W.Frag) (E : XK) : TS := (tDrop (tBM K "list" rAppend (tVar 3) (tCons (tBM0 K "list" rPop (tVar 2)) tNil)))

@[irreducible] def t_law_round_2a_2 (K : PySem.W.Frag) (E : XK) : TS := (tIfS (tTest (tOp rEq (tVar 4) (tC (.str "on"))))
    (t_law_round_2a_2a_0 K E) (t_law_round_2a_2b_0 K E))

@[irreducible] def t_law_round_2a_1 (K : PySem.W.Frag) (E : XK) : TS := tSeq (tFor (iRng1 (tCons (tOp oSub (tVar 5) (tC (.int 1))) tNil)) (gName 6)
    (t_law_round_2a_1a_0 K E)) (t_law_round_2a_2 K E)

def t_law_round_2a_0 (K : PySem.W.Frag) (E : XK) : TS := tSeq (tAsg (tOp (rIxT K) (tOp (rIxT K) (tVar 0) (tC (.int 0))) (tOp oMod (tCB (cLen K) (tCons (tVar 3) tNil)) (tCB (cLen K) (tCons (tOp (rIxT K) (tVar 0) (tC (.int 0))) tNil)))) (gTup K 2 (gCons (gName 4) (gCons (gName 5) gNil)))) (t_law_round_2a_1 K E)

def t_law_round_3 (K : PySem.W.Frag) (E : XK) : TS := (tRet (tLst (tCons (tVar 3) (tCons (tVar 2) tNil))))

@[irreducible] def t_law_round_2 (K : PySem.W.Frag) (E : XK) : TS := tSeq (tWhile (tTest (tOp oGt (tCB (cLen K) (tCons (tVar 2) tNil)) (tOp (rIxT K) (tVar 0) (tC (.int 1)))))
    (t_law_round_2a_0 K E)) (t_law_round_3 K E)

def t_law_round_1 (K : PySem.W.Frag) (E : XK) : TS := tSeq (tAsg (tLst tNil) (gName 3)) (t_law_round_2 K E)

def t_law_round_0 (K : PySem.W.Frag) (E : XK) : TS := tSeq (tAsg (tLstRg (tRg1 (tVar 1))) (gName 2)) (t_law_round_1 K E)

theorem cut_neg1 (xs : List V) (h : 1 ≤ xs.length) : cutV xs (some (-1)) none = xs.drop (xs.length - 1) ∧ cutV xs none (some (-1)) = xs.take (xs.length - 1) := by
  have e : (-1 + (xs.length : Int)).toNat = xs.length - 1 := by omega
  constructor
  · show (xs.drop (-1 + (xs.length : Int)).toNat).take (xs.length - (-1 + (xs.length : Int)).toNat) = _
    rw [e]
    exact List.take_of_length_le (by rw [List.length_drop]; exact Nat.le_refl _)
  · show (xs.drop 0).take ((-1 + (xs.length : Int)).toNat - 0) = _
    rw [e, List.drop_zero, Nat.sub_zero]
def RndSt (H0 : Hp) (t : V) (vs : List Ve) (left : Int) (N : Nat) (σ : L2.St) (H : Hp) : Prop := ∃ (j : Nat) (r q : Addr) (u4 u5 u6 : Option V),
  σ = [some t, some (.int N), some (.ref r), some (.ref q), u4, u5, u6] ∧ j + left.toNat ≤ N ∧ Ex H0 H ∧ H0 q = none ∧ H0 r = none ∧ q ≠ r ∧ H q = some (.lst ((Rh.st (rises vs) N j).1.map V.int)) ∧ H r = some (.lst ((Rh.st (rises vs) N j).2.map V.int))
def rndMu (σ : L2.St) (H : Hp) : Nat := match σ with
  | [_, _, some (.ref r), _, _, _, _] => (match H r with
    | some (.lst xs) => xs.length
    | _ => 0)
  | _ => 0
theorem rndMu_of {H : Hp} {r : Addr} {xs : List V} {x y z u w w2 : Option V} (h : H r = some (.lst xs)) : rndMu [x, y, some (.ref r), z, u, w, w2] H = xs.length := by
  show (match H r with | some (.lst xs) => xs.length | _ => 0) = _
  rw [h]
/-- one turning of the row -/
theorem round_spin {K : PySem.W.Frag} {E : XK} {D : Ends} {H : Hp} {s0 s1 s3 s5 s6 : Option V} {r : Addr} {b : Bool} {x : List Int} (h1 : 1 ≤ x.length) (h5 : x.length ≤ 5000) (hr : H r = some (.lst (x.map V.int)))
    (k : ∀ (p : Addr) (H' : Hp), H p = none → Ex H H' → H' p = some (.lst ((rotN x (if b then 1 else x.length - 1)).map V.int)) → D.nx [s0, s1, some (.ref p), s3, some (.str (wayS b)), s5, s6] H') :
    t_law_round_2a_1a_0 K E D [s0, s1, some (.ref r), s3, some (.str (wayS b)), s5, s6] H := by
  have h5000 : (10001 : Nat) ≤ sizeLine := by decide
  have hxl : (x.map V.int).length = x.length := List.length_map ..
  have fin : ∀ (xs ys : List Int) (s : Nat), xs = x.drop s → ys = x.take s → s = (if b then 1 else x.length - 1) → ∀ (p1 p2 : Addr) (H2 : Hp), Ex H H2 → H2 p1 = some (.lst (xs.map V.int)) → H2 p2 = some (.lst (ys.map V.int)) → rCat (.ref p1) (.ref p2) H2 (fun y H3 => D.nx [s0, s1, some y, s3, some (.str (wayS b)), s5, s6] H3) := by
    rintro xs ys s rfl rfl rfl p1 p2 H2 e g1 g2
    refine ⟨p1, p2, _, _, rfl, rfl, g1, g2, ?_, fun p3 hp3 => ?_⟩
    · rw [List.length_map, List.length_map, List.length_drop, List.length_take]
      omega
    · refine k p3 _ (ex_free e hp3) (ex_trans e (ex_new hp3)) ?_
      rw [upd_same, ← List.map_append]
      rfl
  cases b with
  | true =>
    refine ⟨_, rfl, rfl, _, rfl, ?_⟩
    refine iteT' (decide_eq_true rfl) ⟨_, rfl, 1, rfl, r, _, rfl, SqL.of hr, fun p1 hp1 => ?_⟩
    have e1 := cut_from (x.map V.int) 1 (by rw [hxl]; exact h1)
    rw [show ((1 : Nat) : Int) = 1 from rfl, ← List.map_drop] at e1
    rw [e1]
    have ex1 := ex_new (o := .lst ((x.drop 1).map V.int)) hp1
    refine ⟨_, rfl, 1, rfl, r, _, rfl, SqL.of (ex1 _ _ hr), fun p2 hp2 => ?_⟩
    have e2 := cut_to (x.map V.int) 1 (by rw [hxl]; exact h1)
    rw [show ((1 : Nat) : Int) = 1 from rfl, ← List.map_take] at e2
    rw [e2]
    have ex2 := ex_new (o := .lst ((x.take 1).map V.int)) hp2
    exact fin _ _ 1 rfl rfl rfl p1 p2 _ (ex_trans ex1 ex2) (ex2 _ _ upd_same) upd_same
  | false =>
    refine ⟨_, rfl, rfl, _, rfl, ?_⟩
    obtain ⟨c1, c2⟩ := cut_neg1 (x.map V.int) (by rw [hxl]; exact h1)
    rw [hxl, ← List.map_drop] at c1
    rw [hxl, ← List.map_take] at c2
    refine iteF' (by rw [d_str]; decide +kernel) ⟨_, rfl, 1, rfl, _, rfl, r, _, rfl, SqL.of hr, fun p1 hp1 => ?_⟩
    rw [c1]
    have ex1 := ex_new (o := .lst ((x.drop (x.length - 1)).map V.int)) hp1
    refine ⟨_, rfl, 1, rfl, _, rfl, r, _, rfl, SqL.of (ex1 _ _ hr), fun p2 hp2 => ?_⟩
    rw [c2]
    have ex2 := ex_new (o := .lst ((x.take (x.length - 1)).map V.int)) hp2
    exact fin _ _ (x.length - 1) rfl rfl rfl p1 p2 _ (ex_trans ex1 ex2) (ex2 _ _ upd_same) upd_same
theorem seqIndex_zero {n : Nat} (h : 0 < n) : seqIndex? 0 n = some 0 := by
  unfold seqIndex?
  simp
  omega
theorem round_turn {K : PySem.W.Frag} {E : XK} {D : Ends} {H0 H : Hp} {t : V} {r q : Addr} {vs : List Ve} {left : Int} {N j : Nat} {u4 u5 u6 : Option V} (hT : Dp K H0 t (tD vs left)) (ok : RhOk vs left)
    (hN : N ≤ 5000) (hj : j + left.toNat < N) (e : Ex H0 H) (nq : H0 q = none) (nr : H0 r = none) (qr : q ≠ r) (hq : H q = some (.lst ((Rh.st (rises vs) N j).1.map V.int))) (hr : H r = some (.lst ((Rh.st (rises vs) N j).2.map V.int)))
    (k : ∀ σ H', RndSt H0 t vs left N σ H' → rndMu σ H' < N - j → D.nx σ H') :
    t_law_round_2a_0 K E D [some t, some (.int N), some (.ref r), some (.ref q), u4, u5, u6] H := by
  have l1 := ok.l1
  have lf := ok.lf
  have h5000 : (10001 : Nat) ≤ sizeLine := by decide
  have hlen1 := Rh.st_len1 (rises vs) N j
  have hlen2 := Rh.st_len (rises vs) N j (by omega)
  obtain ⟨a, v, rfl, hs, hv⟩ := tD_at hT
  obtain ⟨b, xs, rfl, hb, hall⟩ := dp_tup (id hv)
  have hl : xs.length = vs.length := by
    have := dpa_len hall
    rw [List.length_map] at this
    exact this
  -- the verse
  have hjm : (j : Int) % (vs.length : Int) = ((j % vs.length : Nat) : Int) := rfl
  have hlt : j % vs.length < vs.length := Nat.mod_lt _ (by omega)
  obtain ⟨x, hx, hdx⟩ := dpa_get hall (show (vs.map vD)[j % vs.length]? = some (vD vs[j % vs.length]) by rw [List.getElem?_map, List.getElem?_eq_getElem hlt]; rfl)
  obtain ⟨ve, tt, hve, rfl, ht⟩ := vs_at hall hx
  have hvc := ok.cnt ve (List.mem_of_getElem? hve)
  have hri : Rh.rI (rises vs) (j : Int) = riseOf ve := by
    unfold Rh.rI
    rw [rises_len, hjm]
    show (rises vs).getD (j % vs.length) 0 = _
    unfold rises
    rw [List.getD_eq_getElem?_getD, List.getElem?_map, hve]
    rfl
  refine ⟨_, rfl, a, _, 0, _, rfl, rfl, sqt_ex e hs, at0, _, rfl, q, _, rfl, .inl (SqL.of hq), _, rfl, a, _, 0, _, rfl, rfl, sqt_ex e hs, at0, b, xs, rfl, .inr (sqt_ex e hb), _, _, rfl, rfl, (by omega), ?_⟩
  rw [hl, List.length_map, hlen1]
  refine ⟨b, xs, _, _, rfl, rfl, sqt_ex e hb, at_of hjm hx, tt, _, rfl, sqt_ex e ht, rfl, _, _, rfl, _, _, rfl, rfl, ?_⟩
  show t_law_round_2a_1 K E D [some (.ref a), some (.int N), some (.ref r), some (.ref q), some (.str (wayS ve.1)), some (.int ve.2), u6] H
  unfold t_law_round_2a_1
  generalize hl0 : (Rh.st (rises vs) N j).2 = row at hr hlen2
  have hrow : row.length = N - j := hlen2
  refine ⟨_, rfl, _, _, rfl, rfl, _, rfl, (by omega), (by omega), for_range (fun i σ H' => ∃ (p : Addr) (u : Option V) (x : List Int), σ = [some (.ref a), some (.int N), some (.ref p), some (.ref q), some (.str (wayS ve.1)), some (.int ve.2), u] ∧ Ex H H' ∧ H0 p = none ∧ q ≠ p ∧ H' p = some (.lst (x.map V.int)) ∧ IsRot row (if ve.1 then (i : Int) else -(i : Int)) x)
    ⟨r, u6, row, rfl, ex_refl _, nr, qr, hr, ?_⟩ ?_ ?_⟩
  · split
    · exact IsRot.zero row
    · exact IsRot.zero row
  · rintro i σ H' hi ⟨p, u, x, rfl, e1, np, qp, hp, hrot⟩
    refine round_spin (E := E) (by rw [hrot.len]; omega) (by rw [hrot.len]; omega) hp fun p2 H2 hp2 e2 h2 => ?_
    refine ⟨p2, _, _, rfl, ex_trans e1 e2, ex_free (ex_trans e e1) hp2, ?_, h2, ?_⟩
    · exact ne_of_none (e1 _ _ hq) hp2
    · cases hw : ve.1 with
      | true =>
        rw [hw, if_pos rfl] at hrot
        rw [if_pos rfl, if_pos rfl]
        exact hrot.left (by omega)
      | false =>
        rw [hw, if_neg Bool.false_ne_true] at hrot
        rw [if_neg Bool.false_ne_true, if_neg Bool.false_ne_true, hrot.len]
        have := hrot.right (by omega)
        have ee : -((i + 1 : Nat) : Int) = -(i : Int) - 1 := by omega
        rw [ee]
        exact this
  · rintro σ H' ⟨p, u, x, rfl, e1, np, qp, hp, hrot⟩
    show t_law_round_2a_2 K E D [some (.ref a), some (.int N), some (.ref p), some (.ref q), some (.str (wayS ve.1)), some (.int ve.2), u] H'
    unfold t_law_round_2a_2
    have hq1 := e1 _ _ hq
    have hxl := hrot.len
    have hlen3 := Rh.st_len (rises vs) N (j + 1) (by omega)
    have hst : Rh.st (rises vs) N (j + 1) = ((Rh.st (rises vs) N j).1 ++ [row.getD (Rh.atR (riseOf ve) row.length) 0], Rh.cut row (Rh.atR (riseOf ve) row.length)) := by
      show ((Rh.st (rises vs) N j).1 ++ [(Rh.st (rises vs) N j).2.getD (Rh.atR (Rh.rI (rises vs) j) (Rh.st (rises vs) N j).2.length) 0], Rh.cut (Rh.st (rises vs) N j).2 (Rh.atR (Rh.rI (rises vs) j) (Rh.st (rises vs) N j).2.length)) = _
      rw [hl0, hri]
    -- a child popped and put
    have fin : ∀ (c : Int) (y : List Int), c = row.getD (Rh.atR (riseOf ve) row.length) 0 → y = Rh.cut row (Rh.atR (riseOf ve) row.length) →
        rAppend (.ref q) [.int c] (upd H' p (.lst (y.map V.int))) (fun _ H3 => D.nx [some (.ref a), some (.int N), some (.ref p), some (.ref q), some (.str (wayS ve.1)), some (.int ve.2), u] H3) := by
      rintro c y rfl rfl
      refine ⟨q, _, _, rfl, rfl, (by rw [upd_ne qp]; exact hq1), (by rw [List.length_map, hlen1]; omega), ?_⟩
      have h2 : (upd (upd H' p (.lst ((Rh.cut row (Rh.atR (riseOf ve) row.length)).map V.int))) q (.lst ((Rh.st (rises vs) N j).1.map V.int ++ [.int (row.getD (Rh.atR (riseOf ve) row.length) 0)]))) p = some (.lst ((Rh.st (rises vs) N (j + 1)).2.map V.int)) := by
        rw [upd_ne qp.symm, upd_same, hst]
      refine k _ _ ⟨j + 1, p, q, _, _, _, rfl, by omega, ex_mut (ex_mut (ex_trans e e1) np) nq, nq, np, qp, ?_, h2⟩ ?_
      · rw [upd_same, hst, List.map_append]
        rfl
      · have := rndMu_of (x := some (.ref a)) (y := some (.int N)) (z := some (.ref q)) (u := some (.str (wayS ve.1))) (w := some (.int ve.2)) (w2 := u) h2
        refine Nat.lt_of_le_of_lt (Nat.le_of_eq this) ?_
        rw [List.length_map, hlen3]
        omega
    cases hw : ve.1 with
    | true =>
      rw [hw, if_pos rfl] at hrot
      have hz : (((ve.2 - 1).toNat : Nat) : Int) = riseOf ve - 1 := by
        unfold riseOf
        rw [hw, if_pos rfl]
        omega
      rw [hz] at hrot
      obtain ⟨f1, f2⟩ := hrot.first (by omega)
      refine if_go true (fun Q q => ⟨_, rfl, rfl, true, ?_, q⟩) (fun _ => ?_) (fun z => nomatch z)
      · rw [d_str]
        rfl
      rw [hw] at fin
      refine ⟨_, rfl, .inl ⟨rfl, _, SqL.of hq1⟩, _, rfl, .inl ⟨rfl, _, SqL.of hp⟩, p, _, 0, 0, .int (x.getD 0 0), rfl, rfl, hp, by decide, by decide, ?_, ?_, ?_⟩
      · exact seqIndex_zero (by rw [List.length_map]; omega)
      · rw [List.getElem?_map, getD_at (l := x) (d := 0) (by omega)]
        rfl
      · have ee : (x.map V.int).eraseIdx 0 = (x.drop 1).map V.int := by
          cases x <;> rfl
        first
          | rw [ee]
          | skip
        exact fin _ _ f1 f2
    | false =>
      rw [hw, if_neg Bool.false_ne_true] at hrot
      have hz : -(((ve.2 - 1).toNat : Nat) : Int) = riseOf ve := by
        unfold riseOf
        rw [hw, if_neg Bool.false_ne_true]
        omega
      rw [hz] at hrot
      obtain ⟨f1, f2⟩ := hrot.last (by omega)
      refine if_go false (fun Q q => ⟨_, rfl, rfl, false, ?_, q⟩) (fun z => nomatch z) (fun _ => ?_)
      · rw [d_str]
        decide +kernel
      rw [hw] at fin
      refine ⟨_, rfl, .inl ⟨rfl, _, SqL.of hq1⟩, _, rfl, .inl ⟨rfl, _, SqL.of hp⟩, p, _, .int (x.getD (row.length - 1) 0), rfl, rfl, hp, ?_, ?_⟩
      · rw [List.length_map, hxl, List.getElem?_map, getD_at (l := x) (d := 0) (by omega)]
        rfl
      · rw [← List.map_dropLast]
        exact fin _ _ f1 f2
theorem pure_law_round {K : PySem.W.Frag} (ws : List V) (H : Hp) (Q : VK) (E : XK) (h : sp_law_round K ws H Q E) : t_law_round_0 K E { nx := fun _ H' => Q .non H', rt := Q } (start ["_law_t", "_law_n", "_law_row", "_law_went", "_law_way", "_law_count", "_law_k"] ws) H := by
  unfold sp_law_round at h
  obtain ⟨t, vs, left, N, rfl, hT, ok, hN, hN2, k⟩ := h
  obtain ⟨a, v, rfl, hs, hv⟩ := tD_at hT
  have lf := ok.lf
  show t_law_round_0 K E _ [some (.ref a), some (.int N), none, none, none, none, none] H
  refine ⟨_, rfl, _, rfl, RgOk.of_le (by omega) (by omega) (by omega) (by omega), fun r hr => ?_⟩
  rw [rgV_nat]
  have e1 := ex_new (o := .lst ((Rh.st [] N 0).2.map V.int)) hr
  refine ⟨Nat.zero_le _, fun q hq => ?_⟩
  have e2 := ex_new (o := .lst []) hq
  show t_law_round_2 K E { nx := fun _ H' => Q .non H', rt := Q } [some (.ref a), some (.int N), some (.ref r), some (.ref q), none, none, none] _
  unfold t_law_round_2
  refine while_by (RndSt H (.ref a) vs left N) rndMu ⟨0, r, q, none, none, none, rfl, by omega, ex_trans e1 e2, ex_free e1 hq, hr, (ne_of_none upd_same hq).symm, upd_same, e2 _ _ upd_same⟩ ?_ ?_
  · rintro σ H' ⟨j, r, q, u4, u5, u6, rfl, hj, e, nq, nr, qr, hq, hr⟩
    have hlen2 := Rh.st_len (rises vs) N j (by omega)
    refine ⟨_, rfl, r, _, rfl, .inl (SqL.of hr), _, rfl, a, _, 1, _, rfl, rfl, sqt_ex e hs, at1, _, _, rfl, rfl, _, rfl, ?_⟩
    rw [List.length_map, hlen2]
    by_cases c : left < ((N - j : Nat) : Int)
    · refine iteT' (decide_eq_true c) ?_
      refine round_turn (E := E) hT ok hN2 (by omega) e nq nr qr hq hr fun σ' H'' hS hM => ⟨hS, ?_⟩
      rw [rndMu_of hr, List.length_map, hlen2]
      exact hM
    · refine iteF' (decide_eq_false c) ?_
      have ej : j = N - left.toNat := by omega
      subst ej
      refine ⟨_, rfl, _, rfl, (by show 2 ≤ sizeLine; decide), fun p hp => ?_⟩
      have e3 := ex_new (o := .lst [.ref q, .ref r]) hp
      exact k p q r _ (ex_free e hp) nq nr qr (ex_trans e e3) upd_same (e3 _ _ hq) (e3 _ _ hr)
  · rintro σ H' Q Q' hq ⟨x, hx, p, ys, h1, h2, y, hy, a1, xs, i1, v1, h3, h4, h5, h6, i, j, h8, h9, b, hb, q⟩
    exact ⟨x, hx, p, ys, h1, h2, y, hy, a1, xs, i1, v1, h3, h4, h5, h6, i, j, h8, h9, b, hb, hq _ _ q⟩
/-! ### the law's number -/
@[irreducible] def sp_law_number (K : PySem.W.Frag) : Sp := fun ws H Q _ => ∃ (d : Addr) (t : V) (vs : List Ve) (left most : Int), ws = [.ref d, t, .int most] ∧ DSt H d ∧ Dp K H t (tD vs left) ∧ RhOk vs left ∧ left ≤ most ∧ most ≤ 1000 ∧
  ∀ (n : Int) (H' : Hp), left ≤ n → n ≤ most → DSt H' d → Fx d H H' → Q (.int n) H'
def t_law_number_0 (K : PySem.W.Frag) (E : XK) : TS := (tRet (tOp oAdd (tOp (rIxT K) (tVar 1) (tC (.int 1))) (tCall (sp_law_below K) [] E0 (tCons (tVar 0) (tCons (tOp oAdd (tOp oSub (tVar 2) (tOp (rIxT K) (tVar 1) (tC (.int 1)))) (tC (.int 1))) tNil)))))

theorem pure_law_number {K : PySem.W.Frag} (ws : List V) (H : Hp) (Q : VK) (E : XK) (h : sp_law_number K ws H Q E) : t_law_number_0 K E { nx := fun _ H' => Q .non H', rt := Q } (start ["_law_d", "_law_t", "_law_most"] ws) H := by
  unfold sp_law_number at h
  obtain ⟨d, t, vs, left, most, rfl, hD, hT, ok, h1, h2, k⟩ := h
  obtain ⟨a, v, rfl, hs, hv⟩ := tD_at hT
  have lf := ok.lf
  refine ⟨_, rfl, a, _, 1, _, rfl, rfl, hs, at1, _, rfl, _, rfl, _, rfl, a, _, 1, _, rfl, rfl, hs, at1, _, _, rfl, rfl, _, _, rfl, rfl, ?_⟩
  unfold sp_law_below
  refine ⟨d, most - left + 1, rfl, hD, by omega, by omega, fun r H' r0 r1 hD' f => ⟨_, _, rfl, rfl, ?_⟩⟩
  exact k (left + r) H' (by omega) (by omega) hD' f

end Z
namespace Rh
/-! ### when a child goes -/
/-- k more turns from this one on, s in, the child at place p -/
def whenR (R : List Int) : Nat → Int → Int → Int → Option Int
  | 0, _, _, _ => none
  | k + 1, t, s, p => if (p - rI R t) % s = s - 1 then some (t + 1) else whenR R k (t + 1) (s - 1) ((p - rI R t) % s)
theorem whenR_zero (R : List Int) (t s p : Int) : whenR R 0 t s p = none := rfl
theorem whenR_out {R : List Int} {k : Nat} {t s p : Int} (h : (p - rI R t) % s = s - 1) : whenR R (k + 1) t s p = some (t + 1) := if_pos h
theorem whenR_in {R : List Int} {k : Nat} {t s p : Int} (h : ¬ (p - rI R t) % s = s - 1) : whenR R (k + 1) t s p = whenR R k (t + 1) (s - 1) ((p - rI R t) % s) := if_neg h
/-- a step back of a step up -/
theorem step_back {q r s : Int} (h0 : 0 ≤ q) (h1 : q < s) : ((q + r) % s - r) % s = q := by
  rw [Int.sub_emod, Int.emod_emod_of_dvd _ (Int.dvd_refl s), ← Int.sub_emod]
  have e : q + r - r = q := by omega
  rw [e]
  exact Int.emod_eq_of_lt h0 h1
theorem step_fore {p r s : Int} (h0 : 0 ≤ p) (h1 : p < s) : ((p - r) % s + r) % s = p := by
  rw [Int.emod_add_emod]
  have e : p - r + r = p := by omega
  rw [e]
  exact Int.emod_eq_of_lt h0 h1
/-- down a way that leads up -/
theorem when_lift (R : List Int) (n : Int) (k : Nat) : ∀ (j : Nat) (s p : Int), 0 ≤ p → p < s → whenR R (k + j) (n - (s + (j : Int))) (s + (j : Int)) (lift R n j s p) = whenR R k (n - s) s p
  | 0, s, p, _, _ => by
    rw [lift_zero]
    have e : s + ((0 : Nat) : Int) = s := by omega
    rw [e]
    rfl
  | j + 1, s, p, h0, h1 => by
    have b := lift_bd R n j s p h0 h1
    have e : k + (j + 1) = (k + j) + 1 := by omega
    have e2 : s + ((j + 1 : Nat) : Int) = s + (j : Int) + 1 := by omega
    have e3 : n - (s + (j : Int) + 1) = n - (s + (j : Int)) - 1 := by omega
    rw [e, e2, e3, lift_snoc]
    have back := step_back (r := rI R (n - (s + (j : Int)) - 1)) (s := s + (j : Int) + 1) b.1 (by omega)
    rw [whenR_in (by rw [back]; omega), back]
    have e4 : n - (s + (j : Int)) - 1 + 1 = n - (s + (j : Int)) := by omega
    have e5 : s + (j : Int) + 1 - 1 = s + (j : Int) := by omega
    rw [e4, e5]
    exact when_lift R n k j s p h0 h1
/-- the sum of j rises from index a up -/
def usum (R : List Int) (a : Int) : Nat → Int
  | 0 => 0
  | j + 1 => usum R a j + rI R (a + (j : Int))
theorem usum_zero (R : List Int) (a : Int) : usum R a 0 = 0 := rfl
theorem usum_succ (R : List Int) (a : Int) (j : Nat) : usum R a (j + 1) = usum R a j + rI R (a + (j : Int)) := rfl
theorem usum_head (R : List Int) : ∀ (j : Nat) (a : Int), usum R a (j + 1) = rI R a + usum R (a + 1) j
  | 0, a => by
    rw [usum_succ, usum_zero, usum_zero]
    have e : a + ((0 : Nat) : Int) = a := by omega
    rw [e]
    omega
  | j + 1, a => by
    rw [usum_succ, usum_head R j a, usum_succ R (a + 1) j]
    have e : a + ((j + 1 : Nat) : Int) = a + 1 + (j : Int) := by omega
    rw [e]
    omega
theorem usum_per (R : List Int) (a k : Int) (j : Nat) : usum R (a + k * (R.length : Int)) j = usum R a j := by
  induction j with
  | zero => rfl
  | succ j ih =>
    rw [usum_succ, usum_succ, ih]
    have e : a + k * (R.length : Int) + (j : Int) = a + (j : Int) + k * (R.length : Int) := by omega
    rw [e, rI_perk']
theorem when_straight (R : List Int) (k : Nat) : ∀ (j : Nat) (t s p : Int), (∀ i : Nat, i < j → 0 ≤ p - usum R t (i + 1) ∧ p - usum R t (i + 1) ≤ s - (i : Int) - 2) →
    whenR R (k + j) t s p = whenR R k (t + (j : Int)) (s - (j : Int)) (p - usum R t j)
  | 0, t, s, p, _ => by
    rw [usum_zero]
    have e1 : t + ((0 : Nat) : Int) = t := by omega
    have e2 : s - ((0 : Nat) : Int) = s := by omega
    have e3 : p - 0 = p := by omega
    rw [e1, e2, e3]
    rfl
  | j + 1, t, s, p, h => by
    have h0 := h 0 (by omega)
    rw [usum_succ, usum_zero] at h0
    have e0 : t + ((0 : Nat) : Int) = t := by omega
    rw [e0] at h0
    have em : (p - rI R t) % s = p - rI R t := Int.emod_eq_of_lt (by omega) (by omega)
    have e : k + (j + 1) = (k + j) + 1 := by omega
    rw [e, whenR_in (by rw [em]; omega), em, when_straight R k j (t + 1) (s - 1) (p - rI R t) fun i hi => ?_, usum_head]
    · have e1 : t + 1 + (j : Int) = t + ((j + 1 : Nat) : Int) := by omega
      have e2 : s - 1 - (j : Int) = s - ((j + 1 : Nat) : Int) := by omega
      have e3 : p - rI R t - usum R (t + 1) j = p - (rI R t + usum R (t + 1) j) := by omega
      rw [e1, e2, e3]
    · have := h (i + 1) (by omega)
      rw [usum_head] at this
      omega
/-- L whole rhymes down -/
theorem when_leap (R : List Int) (k : Nat) (T : Int) (m : Nat) (hm : m = R.length) (t : Int) (hT : T = usum R t m) : ∀ (L : Nat) (s p : Int),
    (∀ c : Nat, c < L → ∀ i : Nat, i < m → 0 ≤ p - (c : Int) * T - usum R t (i + 1) ∧ p - (c : Int) * T - usum R t (i + 1) ≤ s - (c : Int) * (m : Int) - (i : Int) - 2) →
    ∀ d : Int, whenR R (k + L * m) (t + d * (m : Int)) s p = whenR R k (t + d * (m : Int) + (L : Int) * (m : Int)) (s - (L : Int) * (m : Int)) (p - (L : Int) * T)
  | 0, s, p, _, d => by
    rw [Nat.zero_mul]
    have e1 : t + d * (m : Int) + ((0 : Nat) : Int) * (m : Int) = t + d * (m : Int) := by simp
    have e2 : s - ((0 : Nat) : Int) * (m : Int) = s := by simp
    have e3 : p - ((0 : Nat) : Int) * T = p := by simp
    rw [e1, e2, e3]
    rfl
  | L + 1, s, p, h, d => by
    have e : k + (L + 1) * m = (k + L * m) + m := by rw [Nat.add_mul, Nat.one_mul]; omega
    have up : usum R (t + d * (m : Int)) = usum R t := by
      funext j
      rw [hm]
      exact usum_per R t d j
    rw [e, when_straight R (k + L * m) m (t + d * (m : Int)) s p (fun i hi => ?_), up, ← hT]
    · have e1 : t + d * (m : Int) + (m : Int) = t + (d + 1) * (m : Int) := by
        rw [Int.add_mul]
        omega
      rw [e1, when_leap R k T m hm t hT L (s - (m : Int)) (p - T) (fun c hc i hi => ?_) (d + 1)]
      · have f : ∀ x : Int, ((L + 1 : Nat) : Int) * x = (L : Int) * x + x := fun x => by
          rw [Int.natCast_add, Int.add_mul]; simp
        have e4 : (d + 1) * (m : Int) = d * (m : Int) + (m : Int) := by rw [Int.add_mul]; omega
        rw [f, f, e4]
        have g1 : t + (d * (m : Int) + (m : Int)) + (L : Int) * (m : Int) = t + d * (m : Int) + ((L : Int) * (m : Int) + (m : Int)) := by omega
        have g2 : s - (m : Int) - (L : Int) * (m : Int) = s - ((L : Int) * (m : Int) + (m : Int)) := by omega
        have g3 : p - T - (L : Int) * T = p - ((L : Int) * T + T) := by omega
        rw [g1, g2, g3]
      · have := h (c + 1) (by omega) i hi
        have f : ∀ x : Int, ((c + 1 : Nat) : Int) * x = (c : Int) * x + x := fun x => by
          rw [Int.natCast_add, Int.add_mul]; simp
        rw [f, f] at this
        omega
    · have := h 0 (by omega) i hi
      rw [up]
      have z : ∀ x : Int, ((0 : Nat) : Int) * x = 0 := fun x => by simp
      rw [z, z] at this
      omega
/-- what it tells -/
theorem when_some (R : List Int) (n : Int) : ∀ (k : Nat) (s p t : Int), 0 ≤ p → p < s → (k : Int) < s → 0 ≤ n - s → whenR R k (n - s) s p = some t → n - s < t ∧ t ≤ n - s + (k : Int) ∧ goneF R n t = lift R n (n - s).toNat s p
  | 0, s, p, t, _, _, _, _, h => by cases h
  | k + 1, s, p, t, h0, h1, hk, hn, h => by
    by_cases c : (p - rI R (n - s)) % s = s - 1
    · rw [whenR_out c] at h
      have et := Option.some.inj h
      subst et
      refine ⟨by omega, by omega, ?_⟩
      unfold goneF
      have e1 : n - (n - s + 1) + 1 = s := by omega
      have e2 : n - s + 1 - 1 = n - s := by omega
      have e3 : n - (n - s + 1) = s - 1 := by omega
      rw [e1, e2, e3]
      have f := step_fore (r := rI R (n - s)) h0 h1
      rw [c] at f
      rw [f]
    · rw [whenR_in c] at h
      have b0 := Int.emod_nonneg (p - rI R (n - s)) (show s ≠ 0 by omega)
      have b1 := Int.emod_lt_of_pos (p - rI R (n - s)) (show (0 : Int) < s by omega)
      have e1 : n - s + 1 = n - (s - 1) := by omega
      rw [e1] at h
      obtain ⟨g1, g2, g3⟩ := when_some R n k (s - 1) ((p - rI R (n - s)) % s) t b0 (by omega) (by omega) (by omega) h
      refine ⟨by omega, by omega, ?_⟩
      rw [g3]
      have e2 : (n - (s - 1)).toNat = (n - s).toNat + 1 := by omega
      rw [e2, lift_succ]
      have e3 : s - 1 + 1 = s := by omega
      have e4 : n - (s - 1) - 1 = n - s := by omega
      rw [e3, e4, step_fore h0 h1]
theorem when_none (R : List Int) (n : Int) : ∀ (k : Nat) (s p : Int), 0 ≤ p → p < s → (k : Int) < s → 0 ≤ n - s → whenR R k (n - s) s p = none → ∃ q : Int, 0 ≤ q ∧ q < s - (k : Int) ∧ lift R n (n - (s - (k : Int))).toNat (s - (k : Int)) q = lift R n (n - s).toNat s p
  | 0, s, p, h0, h1, _, _, _ => ⟨p, h0, by omega, by
    have e : s - ((0 : Nat) : Int) = s := by omega
    rw [e]⟩
  | k + 1, s, p, h0, h1, hk, hn, h => by
    by_cases c : (p - rI R (n - s)) % s = s - 1
    · rw [whenR_out c] at h
      cases h
    · rw [whenR_in c] at h
      have b0 := Int.emod_nonneg (p - rI R (n - s)) (show s ≠ 0 by omega)
      have b1 := Int.emod_lt_of_pos (p - rI R (n - s)) (show (0 : Int) < s by omega)
      have e1 : n - s + 1 = n - (s - 1) := by omega
      rw [e1] at h
      obtain ⟨q, g1, g2, g3⟩ := when_none R n k (s - 1) ((p - rI R (n - s)) % s) b0 (by omega) (by omega) (by omega) h
      have e5 : s - 1 - (k : Int) = s - ((k + 1 : Nat) : Int) := by omega
      rw [e5] at g2 g3
      refine ⟨q, g1, g2, ?_⟩
      rw [g3]
      have e2 : (n - (s - 1)).toNat = (n - s).toNat + 1 := by omega
      rw [e2, lift_succ]
      have e3 : s - 1 + 1 = s := by omega
      have e4 : n - (s - 1) - 1 = n - s := by omega
      rw [e3, e4, step_fore h0 h1]
end Rh
namespace Z
open PySem PySem.Spec PyProof.Rows L2
local macro_rules | `(tactic| walk_at "look") => `(tactic| first | assumption | exact upd_same | exact SqL.of (by assumption) | exact SqT.of (by assumption) | exact SqL.of upd_same | exact SqT.of upd_same)
local macro_rules | `(tactic| walk_at "at") => `(tactic| first | exact at0 | exact at1 | exact at2 | exact at3 | exact ix0 | exact ix1 | assumption | exact atI_nat (by rfl))
local macro_rules | `(tactic| walk_at "sd") => `(tactic| ((try dsimp only); first | assumption | omega | (unfold CMul; omega) | (unfold CDiv; omega) | (unfold CPow; decide) | decide))
local macro_rules | `(tactic| walk_at "st") => `(tactic| first
  | (refine ⟨_, rfl, ?_⟩)
  | (refine ⟨_, _, rfl, rfl, ?_⟩)
  | (refine ⟨rfl, ?_⟩)
  | (refine .inl ⟨_, rfl, ?_⟩)
  | (refine ⟨_, _, _, _, rfl, rfl, (by walk_at "look"), (by walk_at "at"), ?_⟩)
  | (refine ⟨_, _, rfl, .inl (by walk_at "look"), ?_⟩)
  | (refine And.intro (by walk_at "sd") ?_)
  | fail "no step")
local macro_rules | `(tactic| walk_at "go") => `(tactic| repeat' (walk_at "st"))
local macro_rules | `(tactic| walk_at "ans") => `(tactic| (intro Q q; (repeat' (walk_at "st")); exact q))

/-! ### when -/
def urow (R : List Int) (t : Int) (m : Nat) : List Int := (List.range m).map fun (i : Nat) => Rh.rI R (t + (i : Int))
theorem urow_len (R : List Int) (t : Int) (m : Nat) : (urow R t m).length = m := by
  unfold urow
  rw [List.length_map, List.length_range]
theorem urow_at {R : List Int} {t : Int} {m i : Nat} (h : i < m) : (urow R t m)[i]? = some (Rh.rI R (t + (i : Int))) := by
  unfold urow
  rw [List.getElem?_map, List.getElem?_range h]
  rfl
theorem urow_take (R : List Int) (a : Int) (m : Nat) : ∀ j : Nat, j ≤ m → ((urow R a m).take j).sum = Rh.usum R a j
  | 0, _ => by rw [Rh.usum_zero]; simp
  | j + 1, h => by
    rw [take_sum (urow_at (by omega)), urow_take R a m j (by omega), Rh.usum_succ]
theorem usums_get (R : List Int) (a : Int) (m i : Nat) (h : i < m) : (sumsL (urow R a m)).getD i 0 = Rh.usum R a (i + 1) := by
  unfold sumsL
  rw [urow_len, List.getD_eq_getElem?_getD, List.getElem?_map, List.getElem?_range h]
  exact urow_take R a m (i + 1) (by omega)
theorem usums_len (R : List Int) (a : Int) (m : Nat) : (sumsL (urow R a m)).length = m := by
  rw [sumsL_len, urow_len]
theorem usum_bd {R : List Int} (hR : ∀ i, -5 ≤ Rh.rI R i ∧ Rh.rI R i ≤ 6) (a : Int) : ∀ j : Nat, -5 * (j : Int) ≤ Rh.usum R a j ∧ Rh.usum R a j ≤ 6 * (j : Int)
  | 0 => by rw [Rh.usum_zero]; omega
  | j + 1 => by
    have := usum_bd hR a j
    have := hR (a + (j : Int))
    rw [Rh.usum_succ]
    omega
theorem urow_rev (R : List Int) (t : Int) (m : Nat) : (urow R t m).reverse = Rh.rrow R (t + (m : Int) - 1) m := by
  refine List.ext_getElem? fun i => ?_
  by_cases h : i < m
  · rw [List.getElem?_reverse (by rw [urow_len]; exact h), urow_len, urow_at (by omega), rrow_map, List.getElem?_map, List.getElem?_range h]
    show some _ = some _
    congr 2
    omega
  · rw [List.getElem?_eq_none_iff.mpr (by rw [List.length_reverse, urow_len]; omega), List.getElem?_eq_none_iff.mpr (by rw [rrow_len]; omega)]
abbrev dsum (R : List Int) (a : Int) (m : Nat) : List Int := sumsL (urow R a m)
theorem dn_get {R : List Int} {a p s c : Int} {m : Nat} (hm : 1 ≤ m) (h : Rh.Dn p s (dsum R a m) c) (i : Nat) (hi : i < m) :
    0 ≤ p - c * Rh.usum R a m - Rh.usum R a (i + 1) ∧ p - c * Rh.usum R a m - Rh.usum R a (i + 1) ≤ s - c * (m : Int) - (i : Int) - 2 := by
  have := h i (by rw [usums_len]; exact hi)
  rw [usums_len, usums_get R a m i hi, usums_get R a m (m - 1) (by omega)] at this
  have e : m - 1 + 1 = m := by omega
  rw [e] at this
  exact this
theorem dn_bd {R : List Int} {a s p : Int} {m : Nat} (h1 : 1 ≤ m) (L : Nat) (hL : 1 ≤ L) (h : ∀ c : Int, 0 ≤ c → c < (L : Int) → Rh.Dn p s (dsum R a m) c) :
    0 ≤ p - (L : Int) * Rh.usum R a m ∧ p - (L : Int) * Rh.usum R a m < s - (L : Int) * (m : Int) := by
  have := dn_get h1 (h ((L : Int) - 1) (by omega) (by omega)) (m - 1) (by omega)
  have e : m - 1 + 1 = m := by omega
  rw [e, Int.sub_mul, Int.sub_mul] at this
  omega
theorem near_dn {R : List Int} {a p s : Int} {m : Nat} (hR : ∀ i, -5 ≤ Rh.rI R i ∧ Rh.rI R i ≤ 6) (h1 : 1 ≤ m) (h4 : m ≤ 4) (hp : 0 ≤ p) (hs : p < s) (h64 : 64 < s) (h : ¬ Rh.Dn p s (dsum R a m) 0) :
    -26 ≤ (if p < s - p then p else p - s) ∧ (if p < s - p then p else p - s) ≤ 26 := by
  have key : p < 26 ∨ s - 26 ≤ p := by
    by_cases c : p < 26 ∨ s - 26 ≤ p
    · exact c
    · exfalso
      refine h fun i hi => ?_
      rw [usums_len] at hi
      rw [usums_len, usums_get R a m i hi, Int.zero_mul, Int.zero_mul]
      have := usum_bd hR a (i + 1)
      omega
  split <;> omega
def whenF (vs : List Ve) (left n c : Int) : Option Int := Rh.whenR (rises vs) (n - left).toNat 0 n c
@[irreducible] def sp_when (K : PySem.W.Frag) : Sp := fun ws H Q E => ∃ (a : Addr) (vs : List Ve) (left : Int) (v cv : V) (d cd : PyData), ws = [.ref a, v, cv] ∧ RhAt K H a vs left ∧ RhOk vs left ∧ Dp K H v d ∧ Dp K H cv cd ∧
  (isBet d left GREAT = false → E (BN K "BadNumber") none H) ∧ (∀ n, d = .int n → left ≤ n → n ≤ GREAT → (isBet cd 0 (n - 1) = false → E (BN K "BadChild") none H) ∧
    ∀ c, cd = .int c → 0 ≤ c → c ≤ n - 1 → ∀ H' : Hp, Ex H H' → Q (oV (whenF vs left n c)) H')
def t_when_1a_0 (K : PySem.W.Frag) (E : XK) : TS := (tRaise0 E (He.ga K "BadChild"))

def t_when_3a_5a_2 (K : PySem.W.Frag) (E : XK) : TS := (tAug 4 (tOp oMul (tVar 11) (tVar 3)) (ipI fun i j => i + j))

def t_when_3a_5a_1 (K : PySem.W.Frag) (E : XK) : TS := tSeq (tAug 6 (tOp oMul (tVar 11) (tVar 3)) (ipI fun i j => i - j)) (t_when_3a_5a_2 K E)

def t_when_3a_5a_0 (K : PySem.W.Frag) (E : XK) : TS := tSeq (tAug 5 (tOp oMul (tVar 11) (tOp (rIxL K) (tVar 8) (tUn oNeg (tC (.int 1))))) (ipI fun i j => i - j)) (t_when_3a_5a_1 K E)

def t_when_3a_5b_0a_3 (K : PySem.W.Frag) (E : XK) : TS := (tAug 4 (tOp oMul (tVar 11) (tVar 3)) (ipI fun i j => i + j))

def t_when_3a_5b_0a_2 (K : PySem.W.Frag) (E : XK) : TS := tSeq (tAug 6 (tOp oMul (tVar 11) (tVar 3)) (ipI fun i j => i - j)) (t_when_3a_5b_0a_3 K E)

def t_when_3a_5b_0a_1 (K : PySem.W.Frag) (E : XK) : TS := tSeq (tAug 5 (tOp oMul (tOp oMul (tVar 11) (tVar 3)) (tCB cInt (tCons (tOp oLt (tCall (sp_beside K) [] E (tCons (tVar 5) (tCons (tVar 6) tNil))) (tC (.int 0))) tNil))) (ipI fun i j => i - j)) (t_when_3a_5b_0a_2 K E)

def t_when_3a_5b_0a_0 (K : PySem.W.Frag) (E : XK) : TS := tSeq (tAsg (tOp oFdv (tOp oSub (tVar 6) (tC (.int 64))) (tVar 3)) (gName 11)) (t_when_3a_5b_0a_1 K E)

def t_when_3a_5b_0b_2a_0 (K : PySem.W.Frag) (E : XK) : TS := (tRet (tVar 4))

def t_when_3a_5b_0b_3 (K : PySem.W.Frag) (E : XK) : TS := (tAug 6 (tC (.int 1)) (ipI fun i j => i - j))

@[irreducible] def t_when_3a_5b_0b_2 (K : PySem.W.Frag) (E : XK) : TS := tSeq (tIfS (tTest (tOp rEq (tVar 5) (tOp oSub (tVar 6) (tC (.int 1)))))
    (t_when_3a_5b_0b_2a_0 K E) tNext) (t_when_3a_5b_0b_3 K E)

def t_when_3a_5b_0b_1 (K : PySem.W.Frag) (E : XK) : TS := tSeq (tAug 4 (tC (.int 1)) (ipI fun i j => i + j)) (t_when_3a_5b_0b_2 K E)

def t_when_3a_5b_0b_0 (K : PySem.W.Frag) (E : XK) : TS := tSeq (tAsg (tOp oMod (tOp oSub (tVar 5) (tOp (rIxL K) (tVar 7) (tC (.int 0)))) (tVar 6)) (gName 5)) (t_when_3a_5b_0b_1 K E)

@[irreducible] def t_when_3a_5b_0 (K : PySem.W.Frag) (E : XK) : TS := (tIfS (tAnd (tTest (tOp oGt (tVar 6) (tOp oAdd (tC (.int 64)) (tVar 3)))) (tB (tCall (sp_does_stay K) [] E (tCons (tRevL K (tVar 7)) (tCons (tCall (sp_beside K) [] E (tCons (tVar 5) (tCons (tVar 6) tNil))) tNil)))))
    (t_when_3a_5b_0a_0 K E) (t_when_3a_5b_0b_0 K E))

@[irreducible] def t_when_3a_5 (K : PySem.W.Frag) (E : XK) : TS := (tIfS (tTest (tOp oGt (tVar 11) (tC (.int 0))))
    (t_when_3a_5a_0 K E) (t_when_3a_5b_0 K E))

def t_when_3a_4 (K : PySem.W.Frag) (E : XK) : TS := tSeq (tAsg (tIf (tTest (tOp oIsN (tVar 10) (tC .non))) (tVar 9) (tCB cMin2 (tCons (tVar 10) (tCons (tVar 9) tNil)))) (gName 11)) (t_when_3a_5 K E)

def t_when_3a_3 (K : PySem.W.Frag) (E : XK) : TS := tSeq (tAsg (tCall (sp_falls K) [] E (tCons (tVar 5) (tCons (tVar 6) (tCons (tVar 8) tNil)))) (gName 10)) (t_when_3a_4 K E)

def t_when_3a_2 (K : PySem.W.Frag) (E : XK) : TS := tSeq (tAsg (tOp oFdv (tOp oSub (tVar 6) (tFld K (tVar 0) "own_left")) (tVar 3)) (gName 9)) (t_when_3a_3 K E)

def t_when_3a_1 (K : PySem.W.Frag) (E : XK) : TS := tSeq (tAsg (tCall (sp_sums_of K) [] E (tCons (tVar 7) tNil)) (gName 8)) (t_when_3a_2 K E)

def t_when_3a_0 (K : PySem.W.Frag) (E : XK) : TS := tSeq (tAsg (tLc (iRng1 (tCons (tVar 3) tNil)) (gName 12) tYes (tOp (rIxT K) (tFld K (tVar 0) "rises") (tOp oMod (tOp oAdd (tVar 4) (tVar 12)) (tVar 3))) [12]) (gName 7)) (t_when_3a_1 K E)

def t_when_4 (K : PySem.W.Frag) (E : XK) : TS := (tRet (tC .non))

@[irreducible] def t_when_3 (K : PySem.W.Frag) (E : XK) : TS := tSeq (tWhile (tTest (tOp oGt (tVar 6) (tFld K (tVar 0) "own_left")))
    (t_when_3a_0 K E)) (t_when_4 K E)

def t_when_2 (K : PySem.W.Frag) (E : XK) : TS := tSeq (tAsg (tTup (tCons (tCB (cLen K) (tCons (tFld K (tVar 0) "rises") tNil)) (tCons (tC (.int 0)) (tCons (tVar 2) (tCons (tVar 1) tNil))))) (gTup K 4 (gCons (gName 3) (gCons (gName 4) (gCons (gName 5) (gCons (gName 6) gNil)))))) (t_when_3 K E)

@[irreducible] def t_when_1 (K : PySem.W.Frag) (E : XK) : TS := tSeq (tIfS (tNot (tB (tCall (sp_is_between K) [] E (tCons (tVar 2) (tCons (tC (.int 0)) (tCons (tOp oSub (tVar 1) (tC (.int 1))) tNil))))))
    (t_when_1a_0 K E) tNext) (t_when_2 K E)

def t_when_0 (K : PySem.W.Frag) (E : XK) : TS := tSeq (tDrop (tCall (sp_need_number K) [(.int 1000000000000000000000000000000)] E (tCons (tVar 0) (tCons (tVar 1) tNil)))) (t_when_1 K E)

def WhenSt (H0 : Hp) (a : Addr) (vs : List Ve) (left n : Int) (x2 : Option V) (goal : Option Int) (σ : L2.St) (H : Hp) : Prop := ∃ (turn place size : Int) (u7 u8 u9 u10 u11 u12 : Option V),
  σ = [some (.ref a), some (.int n), x2, some (.int (vs.length : Nat)), some (.int turn), some (.int place), some (.int size), u7, u8, u9, u10, u11, u12] ∧ 0 ≤ place ∧ place < size ∧ left ≤ size ∧ turn = n - size ∧ Ex H0 H ∧ Rh.whenR (rises vs) (size - left).toNat turn size place = goal ∧ u12 = none
def whenMu (σ : L2.St) (_ : Hp) : Nat := match σ with
  | [_, _, _, _, _, _, some (.int size), _, _, _, _, _, _] => size.toNat
  | _ => 0
theorem when_turn {K : PySem.W.Frag} {E : XK} {D : Ends} {H0 H : Hp} {a : Addr} {vs : List Ve} {left n turn place size : Int} {goal : Option Int} {x2 u7 u8 u9 u10 u11 u12 : Option V} (R : RhAt K H0 a vs left) (ok : RhOk vs left) (T : RhC K)
    (hp : 0 ≤ place) (hs : place < size) (hl : left < size) (ht : turn = n - size) (e : Ex H0 H) (hg : Rh.whenR (rises vs) (size - left).toNat turn size place = goal) (hu : u12 = none)
    (k : ∀ σ H', WhenSt H0 a vs left n x2 goal σ H' → whenMu σ H' < size.toNat → D.nx σ H') (kr : ∀ t H', goal = some t → Ex H0 H' → D.rt (.int t) H') :
    t_when_3a_0 K E D [some (.ref a), some (.int n), x2, some (.int (vs.length : Nat)), some (.int turn), some (.int place), some (.int size), u7, u8, u9, u10, u11, u12] H := by
  subst hu
  have l1 := ok.l1
  have l4 := ok.l4
  have lf := ok.lf
  have hR := rise_bd ok
  have hm : vs.length = (rises vs).length := (rises_len vs).symm
  obtain ⟨dx, tv, tr, g1, g2, g3⟩ := id (rh_ex e R)
  refine ⟨_, rfl, _, rfl, by omega, by omega, fun pr hpr => lc_map walk_range (fun i => .int (Rh.rI (rises vs) (turn + (i : Int)))) hpr (Nat.lt_of_le_of_lt (by omega : _ ≤ 4) (by decide)) (fun _ _ => trivial) ?_ ?_⟩
  · rintro i x H3 H4 hi e3 ⟨rfl, rfl⟩ Q Zf q
    refine ⟨rfl, iteT (B := Zf H4) ?_⟩
    refine ⟨_, rfl, a, _, dx, _, _, rfl, e3 _ _ g1, T.cl, T.nr, rhF_r _ _ _, _, rfl, _, rfl, _, _, rfl, rfl, _, rfl, _, _, rfl, rfl, (by omega), ?_⟩
    have er := rise_at (R := rises vs) (by rw [rises_len]; omega) (turn + (0 + (i : Int)))
    rw [rises_len] at er
    refine ⟨tr, _, _, _, rfl, rfl, sqt_ex e3 g3, er, ?_⟩
    have e0 : turn + (0 + (i : Int)) = turn + (i : Int) := by omega
    rw [e0]
    exact q _ (ex_refl _)
  intro H1 e1 hr
  have hr : H1 pr = some (.lst ((urow (rises vs) turn vs.length).map V.int)) := by
    rw [hr]
    unfold urow
    rw [List.map_map]
    rfl
  show t_when_3a_1 K E D [some (.ref a), some (.int n), x2, some (.int (vs.length : Nat)), some (.int turn), some (.int place), some (.int size), some (.ref pr), u8, u9, u10, u11, none] H1
  refine ⟨_, rfl, ?_⟩
  unfold sp_sums_of
  refine ⟨pr, _, rfl, SqL.of hr, (by rw [urow_len]; omega), fun ps H2 _ e2 hsm => ?_⟩
  show t_when_3a_2 K E D [some (.ref a), some (.int n), x2, some (.int (vs.length : Nat)), some (.int turn), some (.int place), some (.int size), some (.ref pr), some (.ref ps), u9, u10, u11, none] H2
  have e02 : Ex H H2 := ex_trans e1 e2
  refine ⟨_, rfl, _, rfl, a, _, dx, _, _, rfl, e02 _ _ g1, T.cl, T.nl, rhF_l _ _ _, _, _, rfl, rfl, _, rfl, _, _, rfl, rfl, ⟨by omega, by omega⟩, ?_⟩
  show t_when_3a_3 K E D [some (.ref a), some (.int n), x2, some (.int (vs.length : Nat)), some (.int turn), some (.int place), some (.int size), some (.ref pr), some (.ref ps), some (.int ((size - left) / (vs.length : Int))), u10, u11, none] H2
  generalize hmost : (size - left) / (vs.length : Int) = most
  refine ⟨_, rfl, _, rfl, _, rfl, ?_⟩
  unfold sp_falls
  have hT : (dsum (rises vs) turn vs.length).getD ((dsum (rises vs) turn vs.length).length - 1) 0 = Rh.usum (rises vs) turn vs.length := by
    rw [usums_len, usums_get _ _ _ _ (by omega)]
    congr 1
    omega
  have hTb := usum_bd hR turn vs.length
  refine ⟨place, size, ps, _, rfl, SqL.of hsm, (by rw [usums_len]; omega), (by rw [usums_len]; omega), (by rw [hT]; omega), (by rw [hT]; omega), fun H3 e3 => ?_⟩
  have told := Rh.falls_told place size (dsum (rises vs) turn vs.length)
  generalize hf : Rh.fallsF place size (dsum (rises vs) turn vs.length) = found at told
  show t_when_3a_4 K E D [some (.ref a), some (.int n), x2, some (.int (vs.length : Nat)), some (.int turn), some (.int place), some (.int size), some (.ref pr), some (.ref ps), some (.int most), some (oV found), u11, none] H3
  have hmost1 : most * (vs.length : Int) ≤ size - left := by
    rw [← hmost]
    exact Int.ediv_mul_le _ (by omega)
  have hmost0 : 0 ≤ most := by
    rw [← hmost]
    exact Int.ediv_nonneg (by omega) (by omega)
  have hmost2 : 64 + (vs.length : Int) < size → 0 < most := fun h => by
    rw [← hmost]
    have : 1 ≤ (size - left) / (vs.length : Int) := Int.le_ediv_of_mul_le (by omega) (by omega)
    omega
  have e03 : Ex H0 H3 := ex_trans e (ex_trans e02 e3)
  have go : ∀ leap : Int, (0 < leap → leap ≤ most ∧ ∀ c : Int, 0 ≤ c → c < leap → Rh.Dn place size (dsum (rises vs) turn vs.length) c) → (leap ≤ 0 → 0 < most → ¬ Rh.Dn place size (dsum (rises vs) turn vs.length) 0) →
      t_when_3a_5 K E D [some (.ref a), some (.int n), x2, some (.int (vs.length : Nat)), some (.int turn), some (.int place), some (.int size), some (.ref pr), some (.ref ps), some (.int most), some (oV found), some (.int leap), none] H3 := by
    intro leap w1 w2
    unfold t_when_3a_5
    refine if_go (decide (0 < leap)) (by walk_at "ans") (fun c => ?_) (fun c => ?_)
    · have c := of_decide_eq_true c
      obtain ⟨gm, gu⟩ := w1 c
      obtain ⟨L, rfl⟩ := Int.eq_ofNat_of_zero_le (Int.le_of_lt c)
      have hLm : (L : Int) * (vs.length : Int) ≤ size - left := Int.le_trans (Int.mul_le_mul_of_nonneg_right gm (by omega)) hmost1
      have hLp : 0 < (L : Int) * (vs.length : Int) := Int.mul_pos c (by omega)
      have hbd := dn_bd (R := rises vs) (a := turn) l1 L (by omega) gu
      have hlp := Rh.when_leap (rises vs) (size - (L : Int) * (vs.length : Int) - left).toNat _ vs.length hm turn rfl L size place (fun c hc i hi => dn_get l1 (gu (c : Int) (by omega) (by omega)) i hi) 0
      have z0 : turn + 0 * (vs.length : Int) = turn := by simp
      rw [z0] at hlp
      refine ⟨_, rfl, _, rfl, _, rfl, _, rfl, ps, _, _, _, rfl, rfl, sq_ex e3 (SqL.of hsm), last_at (by rw [usums_len]; omega), _, _, rfl, rfl, ?_, _, _, rfl, rfl, ?_⟩
      · rw [hT]
        exact .inr ⟨by omega, by omega⟩
      · refine ⟨_, rfl, _, rfl, _, rfl, _, _, rfl, rfl, .inr ⟨by omega, by omega⟩, _, _, rfl, rfl, ?_⟩
        refine ⟨_, rfl, _, rfl, _, rfl, _, _, rfl, rfl, .inr ⟨by omega, by omega⟩, _, _, rfl, rfl, ?_⟩
        refine k _ _ ⟨turn + (L : Int) * (vs.length : Int), place - (L : Int) * Rh.usum (rises vs) turn vs.length, size - (L : Int) * (vs.length : Int), _, _, _, _, _, _, by rw [hT]; rfl, hbd.1, hbd.2, by omega, by omega, e03, ?_, rfl⟩ ?_
        · rw [← hg, ← hlp]
          congr 1
          have : ((L * vs.length : Nat) : Int) = (L : Int) * (vs.length : Int) := Int.natCast_mul ..
          omega
        · show (size - (L : Int) * (vs.length : Int)).toNat < _
          omega
    · have c := of_decide_eq_false c
      unfold t_when_3a_5b_0
      have hrr : SqL K H3 pr ((urow (rises vs) turn vs.length).map V.int) := sq_ex (ex_trans e2 e3) (SqL.of hr)
      generalize hb : (if place < size - place then place else place - size) = b
      have hpl : Rh.pl size b = place := by
        rw [← hb]
        exact pl_beside hp hs
      have besid : ∀ (G : Hp) (E : XK) (Q : VK), Q (.int b) G → sp_beside K ([.int place, .int size] ++ []) G Q E := fun G E Q q => by
        unfold sp_beside
        refine ⟨place, size, rfl, ?_⟩
        rw [hb]
        exact q
      refine if_goH (decide (64 + (vs.length : Int) < size) && decide (Rh.stays (Rh.rrow (rises vs) (turn + (vs.length : Int) - 1) vs.length) b = b)) (fun Q q => ?_) (fun H4 e4 cc => ?_) (fun H4 e4 cc => ?_)
      · refine ⟨_, rfl, _, rfl, _, _, rfl, rfl, _, _, rfl, rfl, _, rfl, ?_⟩
        by_cases c1 : 64 + (vs.length : Int) < size
        · rw [decide_eq_true c1] at q ⊢
          refine iteT ⟨_, rfl, pr, _, rfl, hrr, fun pv hpv => ?_⟩
          refine ⟨_, rfl, _, rfl, besid _ _ _ ?_⟩
          unfold sp_does_stay
          rw [← List.map_reverse, urow_rev]
          exact ⟨pv, _, b, rfl, SqL.of upd_same, _, rfl, q _ (ex_new hpv)⟩
        · rw [decide_eq_false c1] at q ⊢
          exact iteF (q _ (ex_refl _))
      · obtain ⟨c1, c3⟩ := Bool.and_eq_true_iff.mp cc
        have c1 := of_decide_eq_true c1
        have c3 := of_decide_eq_true c3
        have hnear := near_dn (a := turn) hR l1 l4 hp hs (by omega) (w2 (by omega) (hmost2 c1))
        rw [hb] at hnear
        refine ⟨_, rfl, _, _, rfl, rfl, _, rfl, _, _, rfl, rfl, ⟨by omega, by omega⟩, ?_⟩
        show t_when_3a_5b_0a_1 K E D [some (.ref a), some (.int n), x2, some (.int (vs.length : Nat)), some (.int turn), some (.int place), some (.int size), some (.ref pr), some (.ref ps), some (.int most), some (oV found), some (.int ((size - 64) / (vs.length : Int))), none] H4
        have hL0 : 1 ≤ (size - 64) / (vs.length : Int) := Int.le_ediv_of_mul_le (by omega) (by omega)
        have hL1 : (size - 64) / (vs.length : Int) * (vs.length : Int) ≤ size - 64 := Int.ediv_mul_le _ (by omega)
        generalize (size - 64) / (vs.length : Int) = lp at hL0 hL1
        obtain ⟨L, rfl⟩ := Int.eq_ofNat_of_zero_le (show 0 ≤ lp by omega)
        have ec : ((L * vs.length : Nat) : Int) = (L : Int) * (vs.length : Int) := Int.natCast_mul ..
        have hLp : 0 < (L : Int) * (vs.length : Int) := Int.mul_pos (by omega) (by omega)
        have hidx : Rh.rrow (rises vs) (n - (size - (L : Int) * (vs.length : Int)) - 1) vs.length = Rh.rrow (rises vs) (turn + (vs.length : Int) - 1) vs.length := by
          have e9 : n - (size - (L : Int) * (vs.length : Int)) - 1 - ((L : Int) - 1) * ((rises vs).length : Int) = turn + (vs.length : Int) - 1 := by
            rw [← hm, Int.sub_mul]
            omega
          rw [← e9, Rh.rrow_per]
        have hst := Rh.lift_stay (rises vs) n (size - (L : Int) * (vs.length : Int)) b vs.length hm l4 hR (by omega) hnear (by rw [hidx]; exact c3) L
        have e10 : size - (L : Int) * (vs.length : Int) + (L : Int) * (vs.length : Int) = size := by omega
        rw [e10, hpl] at hst
        have b0 : 0 ≤ Rh.pl (size - (L : Int) * (vs.length : Int)) b := by
          unfold Rh.pl
          split <;> omega
        have b1 : Rh.pl (size - (L : Int) * (vs.length : Int)) b < size - (L : Int) * (vs.length : Int) := by
          unfold Rh.pl
          split <;> omega
        have hwl := Rh.when_lift (rises vs) n (size - (L : Int) * (vs.length : Int) - left).toNat (L * vs.length) _ _ b0 b1
        rw [hst, ec, e10] at hwl
        refine ⟨_, rfl, _, rfl, _, rfl, _, _, rfl, rfl, .inr ⟨by omega, by omega⟩, _, rfl, _, rfl, besid _ _ _ ⟨_, _, rfl, rfl, .inr ⟨_, rfl, _, _, rfl, rfl, .inr ?_, _, _, rfl, rfl, ?_⟩⟩⟩
        · constructor <;> split <;> decide
        · refine ⟨_, rfl, _, rfl, _, rfl, _, _, rfl, rfl, .inr ⟨by omega, by omega⟩, _, _, rfl, rfl, ?_⟩
          refine ⟨_, rfl, _, rfl, _, rfl, _, _, rfl, rfl, .inr ⟨by omega, by omega⟩, _, _, rfl, rfl, ?_⟩
          have hnew : place - (L : Int) * (vs.length : Nat) * (if decide (b < 0) = true then 1 else 0) = Rh.pl (size - (L : Int) * (vs.length : Int)) b := by
            rw [← hpl]
            unfold Rh.pl
            by_cases cb : b < 0
            · rw [decide_eq_true cb, if_pos rfl, if_pos cb, if_pos cb]
              omega
            · rw [decide_eq_false cb, if_neg Bool.false_ne_true, if_neg cb, if_neg cb]
              omega
          refine k _ _ ⟨turn + (L : Int) * (vs.length : Int), Rh.pl (size - (L : Int) * (vs.length : Int)) b, size - (L : Int) * (vs.length : Int), _, _, _, _, _, _, by rw [← hnew]; rfl, b0, b1, by omega, by omega, ex_trans e03 e4, ?_, rfl⟩ ?_
          · rw [← hg]
            have es : (size - left).toNat = (size - (L : Int) * (vs.length : Int) - left).toNat + L * vs.length := by omega
            have et : n - (size - (L : Int) * (vs.length : Int)) = turn + (L : Int) * (vs.length : Int) := by omega
            rw [es, ht, hwl, et, ht]
          · show (size - (L : Int) * (vs.length : Int)).toNat < _
            omega
      · have h0 : atI ((urow (rises vs) turn vs.length).map V.int) 0 = some (.int (Rh.rI (rises vs) turn)) := by
          refine at_of (j := 0) rfl ?_
          rw [List.getElem?_map, urow_at (by omega)]
          have e0 : turn + ((0 : Nat) : Int) = turn := by omega
          rw [e0]
          rfl
        have b0 := Int.emod_nonneg (place - Rh.rI (rises vs) turn) (show size ≠ 0 by omega)
        have b1 := Int.emod_lt_of_pos (place - Rh.rI (rises vs) turn) (show (0 : Int) < size by omega)
        have es : (size - left).toNat = (size - 1 - left).toNat + 1 := by omega
        rw [es] at hg
        refine ⟨_, rfl, _, rfl, pr, _, _, _, rfl, rfl, sq_ex e4 hrr, h0, _, _, rfl, rfl, _, rfl, _, _, rfl, rfl, by omega, ?_⟩
        refine ⟨_, rfl, _, _, rfl, rfl, ?_⟩
        show t_when_3a_5b_0b_2 K E D [some (.ref a), some (.int n), x2, some (.int (vs.length : Nat)), some (.int (turn + 1)), some (.int ((place - Rh.rI (rises vs) turn) % size)), some (.int size), some (.ref pr), some (.ref ps), some (.int most), some (oV found), some (.int leap), none] H4
        unfold t_when_3a_5b_0b_2
        refine if_go (decide ((place - Rh.rI (rises vs) turn) % size = size - 1)) (fun Q q => ⟨_, rfl, _, rfl, _, _, rfl, rfl, rfl, _, rfl, by rw [d_int]; exact q⟩) (fun c => ?_) (fun c => ?_)
        · have c := of_decide_eq_true c
          rw [Rh.whenR_out c] at hg
          exact ⟨_, rfl, kr _ _ hg.symm (ex_trans e03 e4)⟩
        · have c := of_decide_eq_false c
          rw [Rh.whenR_in c] at hg
          refine ⟨_, rfl, _, _, rfl, rfl, ?_⟩
          refine k _ _ ⟨turn + 1, (place - Rh.rI (rises vs) turn) % size, size - 1, _, _, _, _, _, _, rfl, b0, by omega, by omega, by omega, ex_trans e03 e4, hg, rfl⟩ ?_
          show (size - 1).toNat < _
          omega
  refine ⟨_, rfl, rfl, _, rfl, ?_⟩
  rw [oV_none]
  cases hfo : found with
  | none =>
    rw [hfo] at told go
    refine iteT ⟨_, rfl, ?_⟩
    refine go most (fun _ => ⟨Int.le_refl _, fun c h0 _ => told.1 rfl c h0⟩) (fun h h2 => by omega)
  | some x =>
    rw [hfo] at told go
    obtain ⟨x0, xu, xn⟩ := told.2 x rfl
    refine iteF ⟨_, rfl, _, rfl, x, most, rfl, ?_⟩
    by_cases c : most < x
    · rw [if_pos c]
      exact go most (fun _ => ⟨Int.le_refl _, fun c h0 h1 => xu c h0 (by omega)⟩) (fun h h2 => by omega)
    · rw [if_neg c]
      refine go x (fun _ => ⟨by omega, xu⟩) (fun h h2 => ?_)
      have : x = 0 := by omega
      rw [this] at xn
      exact xn
theorem pure_when {K : PySem.W.Frag} (T : RhC K) (ws : List V) (H : Hp) (Q : VK) (E : XK) (h : sp_when K ws H Q E) : t_when_0 K E { nx := fun _ H' => Q .non H', rt := Q } (start ["rhyme", "n", "child", "many", "turn", "place", "size", "row", "sums", "most", "found", "leap", "at"] ws) H := by
  unfold sp_when at h
  obtain ⟨a, vs, left, v, cv, d, cd, rfl, R, ok, hd, hcd, k1, k2⟩ := h
  obtain ⟨dx, vv, tr, h1, h2, h3⟩ := id R
  have hl : ((rises vs).map V.int).length = vs.length := by rw [List.length_map, rises_len]
  show t_when_0 K E _ [some (.ref a), some v, some cv, none, none, none, none, none, none, none, none, none, none] H
  refine ⟨_, rfl, _, rfl, ?_⟩
  unfold sp_need_number
  refine ⟨a, vs, left, v, d, GREAT, rfl, R, hd, fun hb => ?_, k1⟩
  obtain ⟨n, rfl, hn1, hn2⟩ := isBet_int hb
  obtain rfl := dp_int hd
  obtain ⟨k3, k4⟩ := k2 n rfl hn1 hn2
  have lf := ok.lf
  have l1 := ok.l1
  show t_when_1 K E { nx := fun _ H' => Q .non H', rt := Q } [some (.ref a), some (.int n), some cv, none, none, none, none, none, none, none, none, none, none] H
  unfold t_when_1
  refine if_go (!(isBet cd 0 (n - 1))) (fun Q q => ?_) (fun c => ?_) (fun c => ?_)
  · refine ⟨_, rfl, _, rfl, _, _, rfl, rfl, ?_⟩
    unfold sp_is_between
    exact ⟨cv, cd, 0, n - 1, rfl, hcd, _, rfl, q⟩
  · refine k3 ?_
    cases z : isBet cd 0 (n - 1) with
    | false => rfl
    | true => rw [z] at c; cases c
  · have hb2 : isBet cd 0 (n - 1) = true := by
      cases z : isBet cd 0 (n - 1) with
      | true => rfl
      | false => rw [z] at c; cases c
    obtain ⟨t, rfl, ht1, ht2⟩ := isBet_int hb2
    obtain rfl := dp_int hcd
    have k5 := k4 t rfl ht1 ht2
    show t_when_2 K E { nx := fun _ H' => Q .non H', rt := Q } [some (.ref a), some (.int n), some (.int t), none, none, none, none, none, none, none, none, none, none] H
    refine ⟨_, rfl, a, _, dx, _, _, rfl, h1, T.cl, T.nr, rhF_r _ _ _, tr, _, rfl, .inr h3, _, rfl, _, rfl, (by show 4 ≤ sizeLine; decide), fun p hp => ?_⟩
    have e1 := ex_new (o := .tup [V.int (((rises vs).map V.int).length : Nat), V.int 0, V.int t, V.int n]) hp
    refine ⟨p, _, rfl, SqT.of upd_same, rfl, _, _, rfl, _, _, rfl, _, _, rfl, _, _, rfl, rfl, ?_⟩
    show t_when_3 K E { nx := fun _ H' => Q .non H', rt := Q } [some (.ref a), some (.int n), some (.int t), some (.int (((rises vs).map V.int).length : Nat)), some (.int 0), some (.int t), some (.int n), none, none, none, none, none, none] _
    rw [hl]
    rw [hl] at e1
    unfold t_when_3
    refine while_by (WhenSt H a vs left n (some (.int t)) (whenF vs left n t)) whenMu ⟨0, t, n, none, none, none, none, none, none, rfl, ht1, by omega, hn1, by omega, e1, rfl, rfl⟩ ?_ ?_
    · rintro σ H' ⟨turn, place, size, u7, u8, u9, u10, u11, u12, rfl, hp', hs', hls, htu, e, hg, hu⟩
      refine ⟨_, rfl, _, rfl, a, _, dx, _, _, rfl, e _ _ h1, T.cl, T.nl, rhF_l _ _ _, _, _, rfl, rfl, _, rfl, ?_⟩
      by_cases c : left < size
      · refine iteT' (decide_eq_true c) ?_
        refine when_turn (E := E) R ok T hp' hs' c htu e hg hu (fun σ' H'' hS hM => ⟨hS, hM⟩) (fun t' H'' ht' e' => ?_)
        rw [ht'] at k5
        exact k5 H'' e'
      · refine iteF' (decide_eq_false c) ?_
        have e0 : (size - left).toNat = 0 := by omega
        rw [e0, Rh.whenR_zero] at hg
        rw [← hg] at k5
        exact k5 H' e
    · rintro σ H' Q Q' hq ⟨x, hx, y, hy, a1, C, dx1, fs, v, h3, h4, h5, h6, h7, i, j, h8, h9, b, hb, q⟩
      exact ⟨x, hx, y, hy, a1, C, dx1, fs, v, h3, h4, h5, h6, h7, i, j, h8, h9, b, hb, hq _ _ q⟩

end Z
namespace Z
open PySem PySem.Spec PyProof.Rows L2
/-! ### the order, and who goes when -/
theorem order_split {vs : List Ve} {left : Int} {N : Nat} (ok : RhOk vs left) (h : left ≤ N) : sortI (Rh.st (rises vs) N (N - left.toNat)).2 = keptL vs left N := by
  have lf := ok.lf
  unfold keptL
  rw [Rh.st_snd (rises vs) N (N - left.toNat) (by omega)]
  congr 2
  omega
theorem order_heir {vs : List Ve} {left : Int} {N : Nat} (ok : RhOk vs left) (h : left ≤ N) : (Rh.st (rises vs) N (N - left.toNat)).2.getD 0 0 = heirF vs left N := by
  have lf := ok.lf
  rw [Rh.st_get (rises vs) N (N - left.toNat) 0 (by omega) (by omega)]
  unfold heirF
  have e1 : ((N : Int) - ((N - left.toNat : Nat) : Int)) = left := by omega
  have e2 : ((N : Int) - left).toNat = N - left.toNat := by omega
  rw [e1, e2]
  rfl
theorem order_gone {vs : List Ve} {left : Int} {N i : Nat} (h : i < N - left.toNat) : (Rh.st (rises vs) N (N - left.toNat)).1[i]? = some (Rh.goneF (rises vs) N ((i : Int) + 1)) := by
  rw [Rh.st_fst (rises vs) N (N - left.toNat) (Nat.sub_le ..)]
  unfold Rh.goneL
  rw [List.getElem?_map, List.getElem?_range h]
  rfl
theorem order_nodup (vs : List Ve) (left : Int) (N : Nat) : ((Rh.st (rises vs) N (N - left.toNat)).1 ++ (Rh.st (rises vs) N (N - left.toNat)).2).Nodup := by
  refine (Rh.st_perm (rises vs) N (N - left.toNat) (Nat.sub_le ..)).nodup_iff.mpr ?_
  refine List.Pairwise.map _ (fun a b h z => h ?_) List.nodup_range
  omega
theorem order_mem {vs : List Ve} {left : Int} {N : Nat} {c : Int} (h0 : 0 ≤ c) (h1 : c < N) : c ∈ (Rh.st (rises vs) N (N - left.toNat)).1 ++ (Rh.st (rises vs) N (N - left.toNat)).2 := by
  refine (Rh.st_perm (rises vs) N (N - left.toNat) (Nat.sub_le ..)).mem_iff.mpr ?_
  exact List.mem_map.mpr ⟨c.toNat, List.mem_range.mpr (by omega), by omega⟩
theorem when_go {vs : List Ve} {left n c : Int} (ok : RhOk vs left) (hn : left ≤ n) (h0 : 0 ≤ c) (h1 : c ≤ n - 1) :
    (∀ t, whenF vs left n c = some t → 1 ≤ t ∧ t ≤ n - left ∧ Rh.goneF (rises vs) n t = c) ∧
    (whenF vs left n c = none → ∃ q : Int, 0 ≤ q ∧ q < left ∧ Rh.lift (rises vs) n (n - left).toNat left q = c) := by
  have lf := ok.lf
  have e0 : n - n = 0 := by omega
  have ez : Rh.lift (rises vs) n (n - n).toNat n c = c := by
    rw [e0]
    rfl
  constructor
  · intro t ht
    unfold whenF at ht
    rw [← e0] at ht
    obtain ⟨g1, g2, g3⟩ := Rh.when_some (rises vs) n (n - left).toNat n c t h0 (by omega) (by omega) (by omega) ht
    rw [ez] at g3
    exact ⟨by omega, by omega, g3⟩
  · intro ht
    unfold whenF at ht
    rw [← e0] at ht
    obtain ⟨q, q0, q1, hq⟩ := Rh.when_none (rises vs) n (n - left).toNat n c h0 (by omega) (by omega) (by omega) ht
    rw [ez] at hq
    have e1 : n - (((n - left).toNat : Nat) : Int) = left := by omega
    rw [e1] at q1 hq
    exact ⟨q, q0, q1, hq⟩
/-- the turn by which a child goes, read off the order -/
theorem order_when {vs : List Ve} {left : Int} {N : Nat} {c : Int} (ok : RhOk vs left) (h : left ≤ N) (h0 : 0 ≤ c) (h1 : c < N) :
    (∃ j : Nat, whenF vs left N c = some ((j : Int) + 1) ∧ (Rh.st (rises vs) N (N - left.toNat)).1[j]? = some c ∧ ∀ m, m < j → ∀ z, (Rh.st (rises vs) N (N - left.toNat)).1[m]? = some z → z ≠ c) ∨
    (whenF vs left N c = none ∧ ¬ c ∈ (Rh.st (rises vs) N (N - left.toNat)).1) := by
  have lf := ok.lf
  obtain ⟨w1, w2⟩ := when_go (n := (N : Int)) ok h h0 (by omega)
  have nd := order_nodup vs left N
  cases hw : whenF vs left N c with
  | some t =>
    obtain ⟨t1, t2, t3⟩ := w1 t hw
    have hj := order_gone (vs := vs) (left := left) (N := N) (i := (t - 1).toNat) (by omega)
    have et : (((t - 1).toNat : Nat) : Int) + 1 = t := by omega
    rw [et, t3] at hj
    refine .inl ⟨(t - 1).toNat, by rw [et], hj, fun m hm z hz e => ?_⟩
    subst e
    have nd1 := (List.nodup_append.mp nd).1
    obtain ⟨b1, g1⟩ := List.getElem?_eq_some_iff.mp hz
    obtain ⟨b2, g2⟩ := List.getElem?_eq_some_iff.mp hj
    exact List.pairwise_iff_getElem.mp nd1 m (t - 1).toNat b1 b2 hm (g1.trans g2.symm)
  | none =>
    refine .inr ⟨rfl, fun hm => ?_⟩
    obtain ⟨q, q0, q1, hq⟩ := w2 hw
    have hrow : c ∈ (Rh.st (rises vs) N (N - left.toNat)).2 := by
      rw [Rh.st_snd (rises vs) N (N - left.toNat) (by omega)]
      unfold Rh.rowL
      refine List.mem_map.mpr ⟨q.toNat, List.mem_range.mpr (by omega), ?_⟩
      have e1 : ((N - (N - left.toNat) : Nat) : Int) = left := by omega
      have e2 : ((q.toNat : Nat) : Int) = q := by omega
      rw [e1, e2]
      exact hq
    exact (List.nodup_append.mp nd).2.2 c hm c hrow rfl
end Z
namespace Z
open PySem PySem.Spec PyProof.Rows L2
local macro_rules | `(tactic| walk_at "look") => `(tactic| first | assumption | exact upd_same | exact SqL.of (by assumption) | exact SqT.of (by assumption) | exact SqL.of upd_same | exact SqT.of upd_same)
local macro_rules | `(tactic| walk_at "at") => `(tactic| first | exact at0 | exact at1 | exact at2 | exact at3 | exact ix0 | exact ix1 | assumption | exact atI_nat (by rfl))
local macro_rules | `(tactic| walk_at "sd") => `(tactic| ((try dsimp only); first | assumption | omega | (unfold CMul; omega) | (unfold CDiv; omega) | (unfold CPow; decide) | decide))
local macro_rules | `(tactic| walk_at "st") => `(tactic| first
  | (refine ⟨_, rfl, ?_⟩)
  | (refine ⟨_, _, rfl, rfl, ?_⟩)
  | (refine ⟨rfl, ?_⟩)
  | (refine .inl ⟨_, rfl, ?_⟩)
  | (refine ⟨_, _, _, _, rfl, rfl, (by walk_at "look"), (by walk_at "at"), ?_⟩)
  | (refine ⟨_, _, rfl, .inl (by walk_at "look"), ?_⟩)
  | (refine And.intro (by walk_at "sd") ?_)
  | fail "no step")
local macro_rules | `(tactic| walk_at "go") => `(tactic| repeat' (walk_at "st"))
local macro_rules | `(tactic| walk_at "ans") => `(tactic| (intro Q q; (repeat' (walk_at "st")); exact q))

/-! ### told, or what was raised -/
/-- how own errors are caught -/
structure ExM (K : PySem.W.Frag) (a b : String) : Prop where
  aa : PySem.W.exmOne K (BN K a) (BN K a) = some true
  bb : PySem.W.exmOne K (BN K b) (BN K b) = some true
  ba : PySem.W.exmOne K (BN K b) (BN K a) = some false
@[irreducible] def sp_law_gone (K : PySem.W.Frag) : Sp := fun ws H Q _ => ∃ (a : Addr) (vs : List Ve) (left : Int) (v tv : V) (d td : PyData), ws = [.ref a, v, tv] ∧ RhAt K H a vs left ∧ RhOk vs left ∧ Dp K H v d ∧ Dp K H tv td ∧
  (isBet d left GREAT = false → Q (.str "number") H) ∧ (∀ n, d = .int n → left ≤ n → n ≤ GREAT → (isBet td 1 (n - left) = false → Q (.str "turn") H) ∧
    ∀ t, td = .int t → 1 ≤ t → t ≤ n - left → ∀ H' : Hp, Ex H H' → Q (.int (Rh.goneF (rises vs) n t)) H')
def t_law_gone_1a_0 (K : PySem.W.Frag) (W : WX) (E : XK) : TS := (tAsg (tCallSD (sp_gone K) [] (WE W) (tCons (tVar 0) (tCons (tVar 1) (tCons (tVar 2) tNil)))) (gName 3))

def t_law_gone_1h0_0 (K : PySem.W.Frag) (E : XK) : TS := (tAsg (tC (.str "number")) (gName 3))

def t_law_gone_1h1_0 (K : PySem.W.Frag) (E : XK) : TS := (tAsg (tC (.str "turn")) (gName 3))

def t_law_gone_2 (K : PySem.W.Frag) (E : XK) : TS := (tRet (tVar 3))

@[irreducible] def t_law_gone_1 (K : PySem.W.Frag) (E : XK) : TS := tSeq (tTry K (fun W => (t_law_gone_1a_0 K W E)) E [(.ref (He.ga K "BadNumber"), fun _ _ _ => (t_law_gone_1h0_0 K E)), (.ref (He.ga K "BadTurn"), fun _ _ _ => (t_law_gone_1h1_0 K E))]) (t_law_gone_2 K E)

def t_law_gone_0 (K : PySem.W.Frag) (E : XK) : TS := tSeq (tAsg (tC .non) (gName 3)) (t_law_gone_1 K E)

theorem pure_law_gone {K : PySem.W.Frag} (X : ExM K "BadNumber" "BadTurn") (ws : List V) (H : Hp) (Q : VK) (E : XK) (h : sp_law_gone K ws H Q E) : t_law_gone_0 K E { nx := fun _ H' => Q .non H', rt := Q } (start ["_law_rhyme", "_law_n", "_law_turn", "_law_told"] ws) H := by
  unfold sp_law_gone at h
  obtain ⟨a, vs, left, v, tv, d, td, rfl, R, ok, hd, htd, k1, k2⟩ := h
  show t_law_gone_1 K E { nx := fun _ H' => Q .non H', rt := Q } [some (.ref a), some v, some tv, some .non] H
  unfold t_law_gone_1
  refine ⟨_, rfl, _, rfl, _, rfl, ?_⟩
  unfold sp_gone
  refine ⟨a, vs, left, v, tv, d, td, rfl, R, ok, hd, htd, fun hb => ?_, fun n en h1 h2 => ⟨fun hb => ?_, fun t et t1 t2 H' e => ?_⟩⟩
  · exact many_0 X.aa fun _ _ => ⟨_, rfl, k1 hb⟩
  · exact many_1 X.ba (many_0 X.bb fun _ _ => ⟨_, rfl, (k2 n en h1 h2).1 hb⟩)
  · exact ⟨_, rfl, (k2 n en h1 h2).2 t et t1 t2 H' e⟩
@[irreducible] def sp_law_when (K : PySem.W.Frag) : Sp := fun ws H Q _ => ∃ (a : Addr) (vs : List Ve) (left : Int) (v cv : V) (d cd : PyData), ws = [.ref a, v, cv] ∧ RhAt K H a vs left ∧ RhOk vs left ∧ Dp K H v d ∧ Dp K H cv cd ∧
  (isBet d left GREAT = false → Q (.str "number") H) ∧ (∀ n, d = .int n → left ≤ n → n ≤ GREAT → (isBet cd 0 (n - 1) = false → Q (.str "child") H) ∧
    ∀ c, cd = .int c → 0 ≤ c → c ≤ n - 1 → ∀ H' : Hp, Ex H H' → Q (oV (whenF vs left n c)) H')
def t_law_when_1a_0 (K : PySem.W.Frag) (W : WX) (E : XK) : TS := (tAsg (tCallSD (sp_when K) [] (WE W) (tCons (tVar 0) (tCons (tVar 1) (tCons (tVar 2) tNil)))) (gName 3))

def t_law_when_1h0_0 (K : PySem.W.Frag) (E : XK) : TS := (tAsg (tC (.str "number")) (gName 3))

def t_law_when_1h1_0 (K : PySem.W.Frag) (E : XK) : TS := (tAsg (tC (.str "child")) (gName 3))

def t_law_when_2 (K : PySem.W.Frag) (E : XK) : TS := (tRet (tVar 3))

@[irreducible] def t_law_when_1 (K : PySem.W.Frag) (E : XK) : TS := tSeq (tTry K (fun W => (t_law_when_1a_0 K W E)) E [(.ref (He.ga K "BadNumber"), fun _ _ _ => (t_law_when_1h0_0 K E)), (.ref (He.ga K "BadChild"), fun _ _ _ => (t_law_when_1h1_0 K E))]) (t_law_when_2 K E)

def t_law_when_0 (K : PySem.W.Frag) (E : XK) : TS := tSeq (tAsg (tC .non) (gName 3)) (t_law_when_1 K E)

theorem pure_law_when {K : PySem.W.Frag} (X : ExM K "BadNumber" "BadChild") (ws : List V) (H : Hp) (Q : VK) (E : XK) (h : sp_law_when K ws H Q E) : t_law_when_0 K E { nx := fun _ H' => Q .non H', rt := Q } (start ["_law_rhyme", "_law_n", "_law_child", "_law_told"] ws) H := by
  unfold sp_law_when at h
  obtain ⟨a, vs, left, v, tv, d, td, rfl, R, ok, hd, htd, k1, k2⟩ := h
  show t_law_when_1 K E { nx := fun _ H' => Q .non H', rt := Q } [some (.ref a), some v, some tv, some .non] H
  unfold t_law_when_1
  refine ⟨_, rfl, _, rfl, _, rfl, ?_⟩
  unfold sp_when
  refine ⟨a, vs, left, v, tv, d, td, rfl, R, ok, hd, htd, fun hb => ?_, fun n en h1 h2 => ⟨fun hb => ?_, fun t et t1 t2 H' e => ?_⟩⟩
  · exact many_0 X.aa fun _ _ => ⟨_, rfl, k1 hb⟩
  · exact many_1 X.ba (many_0 X.bb fun _ _ => ⟨_, rfl, (k2 n en h1 h2).1 hb⟩)
  · exact ⟨_, rfl, (k2 n en h1 h2).2 t et t1 t2 H' e⟩
/-- how many refuse -/
def refN (d : PyData) (left : Int) : Int := (if isBet d left 2000 then 0 else 1) + (if isBet d left GREAT then 0 else 1) + (if isBet d left GREAT then 0 else 1)
@[irreducible] def sp_law_refused (K : PySem.W.Frag) : Sp := fun ws H Q _ => ∃ (a : Addr) (vs : List Ve) (left : Int) (v : V) (d : PyData), ws = [.ref a, v] ∧ RhAt K H a vs left ∧ RhOk vs left ∧ Dp K H v d ∧ ∀ H', Ex H H' → Q (.int (refN d left)) H'
def t_law_refused_1a_0 (K : PySem.W.Frag) (W : WX) (E : XK) : TS := (tDrop (tCallSD (sp_order K) [] (WE W) (tCons (tVar 0) (tCons (tVar 1) tNil))))

def t_law_refused_1h0_0 (K : PySem.W.Frag) (E : XK) : TS := (tAsg (tOp oAdd (tVar 2) (tC (.int 1))) (gName 2))

def t_law_refused_2a_0 (K : PySem.W.Frag) (W : WX) (E : XK) : TS := (tDrop (tCallSD (sp_kept K) [] (WE W) (tCons (tVar 0) (tCons (tVar 1) tNil))))

def t_law_refused_2h0_0 (K : PySem.W.Frag) (E : XK) : TS := (tAsg (tOp oAdd (tVar 2) (tC (.int 1))) (gName 2))

def t_law_refused_3a_0 (K : PySem.W.Frag) (W : WX) (E : XK) : TS := (tDrop (tCallSD (sp_heir K) [] (WE W) (tCons (tVar 0) (tCons (tVar 1) tNil))))

def t_law_refused_3h0_0 (K : PySem.W.Frag) (E : XK) : TS := (tAsg (tOp oAdd (tVar 2) (tC (.int 1))) (gName 2))

def t_law_refused_4 (K : PySem.W.Frag) (E : XK) : TS := (tRet (tVar 2))

@[irreducible] def t_law_refused_3 (K : PySem.W.Frag) (E : XK) : TS := tSeq (tTry K (fun W => (t_law_refused_3a_0 K W E)) E [(.ref (He.ga K "BadNumber"), fun _ _ _ => (t_law_refused_3h0_0 K E))]) (t_law_refused_4 K E)

@[irreducible] def t_law_refused_2 (K : PySem.W.Frag) (E : XK) : TS := tSeq (tTry K (fun W => (t_law_refused_2a_0 K W E)) E [(.ref (He.ga K "BadNumber"), fun _ _ _ => (t_law_refused_2h0_0 K E))]) (t_law_refused_3 K E)

@[irreducible] def t_law_refused_1 (K : PySem.W.Frag) (E : XK) : TS := tSeq (tTry K (fun W => (t_law_refused_1a_0 K W E)) E [(.ref (He.ga K "BadNumber"), fun _ _ _ => (t_law_refused_1h0_0 K E))]) (t_law_refused_2 K E)

def t_law_refused_0 (K : PySem.W.Frag) (E : XK) : TS := tSeq (tAsg (tC (.int 0)) (gName 2)) (t_law_refused_1 K E)

theorem pure_law_refused {K : PySem.W.Frag} (X : PySem.W.exmOne K (BN K "BadNumber") (BN K "BadNumber") = some true) (ws : List V) (H : Hp) (Q : VK) (E : XK) (h : sp_law_refused K ws H Q E) : t_law_refused_0 K E { nx := fun _ H' => Q .non H', rt := Q } (start ["_law_rhyme", "_law_n", "_law_found"] ws) H := by
  unfold sp_law_refused at h
  obtain ⟨a, vs, left, v, d, rfl, R, ok, hd, k⟩ := h
  have lf := ok.lf
  have p3 : ∀ (c : Int) (H1 : Hp), Ex H H1 → c + (if isBet d left GREAT then 0 else 1) = refN d left → t_law_refused_3 K E { nx := fun _ H' => Q .non H', rt := Q } [some (.ref a), some v, some (.int c)] H1 := by
    intro c H1 e1 hc
    unfold t_law_refused_3
    refine ⟨_, rfl, _, rfl, ?_⟩
    unfold sp_heir
    refine ⟨a, vs, left, v, d, rfl, rh_ex e1 R, ok, dp_ex e1 hd, fun hb => ?_, fun n en h1 h2 H' e => ?_⟩
    · rw [hb, if_neg Bool.false_ne_true] at hc
      refine many_0 X fun _ _ => ⟨_, rfl, _, _, rfl, rfl, _, rfl, ?_⟩
      show Q (.int (c + 1)) H1
      rw [hc]
      exact k H1 e1
    · have hb : isBet d left GREAT = true := by
        rw [en]
        exact isBet_of h1 h2
      rw [hb, if_pos rfl, Int.add_zero] at hc
      rw [← hc] at k
      exact ⟨_, rfl, k H' (ex_trans e1 e)⟩
  have p2 : ∀ (c : Int) (H1 : Hp), Ex H H1 → c + (if isBet d left GREAT then 0 else 1) + (if isBet d left GREAT then 0 else 1) = refN d left → t_law_refused_2 K E { nx := fun _ H' => Q .non H', rt := Q } [some (.ref a), some v, some (.int c)] H1 := by
    intro c H1 e1 hc
    unfold t_law_refused_2
    refine ⟨_, rfl, _, rfl, ?_⟩
    unfold sp_kept
    refine ⟨a, vs, left, v, d, rfl, rh_ex e1 R, ok, dp_ex e1 hd, fun hb => ?_, fun n en h1 h2 p H' _ e _ => ?_⟩
    · refine many_0 X fun _ _ => ⟨_, rfl, _, _, rfl, rfl, p3 (c + 1) H1 e1 ?_⟩
      rw [← hc, hb, if_neg Bool.false_ne_true]
    · have hb : isBet d left GREAT = true := by
        rw [en]
        exact isBet_of h1 h2
      refine p3 c H' (ex_trans e1 e) ?_
      rw [← hc, hb, if_pos rfl]
      omega
  show t_law_refused_1 K E { nx := fun _ H' => Q .non H', rt := Q } [some (.ref a), some v, some (.int 0)] H
  unfold t_law_refused_1
  refine ⟨_, rfl, _, rfl, ?_⟩
  unfold sp_order
  refine ⟨a, vs, left, v, d, rfl, R, ok, hd, fun hb => ?_, fun N en h1 h2 p H' _ e _ => ?_⟩
  · refine many_0 X fun _ _ => ⟨_, rfl, _, _, rfl, rfl, p2 (0 + 1) H (ex_refl _) ?_⟩
    unfold refN
    rw [hb, if_neg Bool.false_ne_true]
    omega
  · have hb : isBet d left 2000 = true := by
      rw [en]
      exact isBet_of h1 (by omega)
    refine p2 0 H' e ?_
    unfold refN
    rw [hb, if_pos rfl]

end Z
namespace Z
open PySem PySem.Spec PyProof.Rows L2
local macro_rules | `(tactic| walk_at "look") => `(tactic| first | assumption | exact upd_same | exact SqL.of (by assumption) | exact SqT.of (by assumption) | exact SqL.of upd_same | exact SqT.of upd_same)
local macro_rules | `(tactic| walk_at "at") => `(tactic| first | exact at0 | exact at1 | exact at2 | exact at3 | exact ix0 | exact ix1 | assumption | exact atI_nat (by rfl))
local macro_rules | `(tactic| walk_at "sd") => `(tactic| ((try dsimp only); first | assumption | omega | (unfold CMul; omega) | (unfold CDiv; omega) | (unfold CPow; decide) | decide))
local macro_rules | `(tactic| walk_at "st") => `(tactic| first
  | (refine ⟨_, rfl, ?_⟩)
  | (refine ⟨_, _, rfl, rfl, ?_⟩)
  | (refine ⟨rfl, ?_⟩)
  | (refine .inl ⟨_, rfl, ?_⟩)
  | (refine ⟨_, _, _, _, rfl, rfl, (by walk_at "look"), (by walk_at "at"), ?_⟩)
  | (refine ⟨_, _, rfl, .inl (by walk_at "look"), ?_⟩)
  | (refine And.intro (by walk_at "sd") ?_)
  | fail "no step")
local macro_rules | `(tactic| walk_at "go") => `(tactic| repeat' (walk_at "st"))
local macro_rules | `(tactic| walk_at "ans") => `(tactic| (intro Q q; (repeat' (walk_at "st")); exact q))

/-! ### equal data -/
mutual
theorem same_refl : ∀ (n : Nat) (d : PyData), okD n d → same d d = true
  | _, .none, _ => rfl
  | _, .bool b, _ => decide_eq_true rfl
  | _, .int b, _ => decide_eq_true rfl
  | _, .str b, _ => decide_eq_true rfl
  | n + 1, .list ds, h => sameA_refl n ds h.2
  | n + 1, .tuple ds, h => sameA_refl n ds h.2
  | 0, .list _, h => h.elim
  | 0, .tuple _, h => h.elim
  | 0, .dict _, h => h.elim
  | _ + 1, .dict _, h => h.elim
theorem sameA_refl : ∀ (n : Nat) (ds : List PyData), (∀ d ∈ ds, okD n d) → sameA ds ds = true
  | _, [], _ => rfl
  | n, d :: ds, h => by
    show (same d d && sameA ds ds) = true
    rw [same_refl n d (h d (List.mem_cons_self ..)), sameA_refl n ds fun e he => h e (List.mem_cons_of_mem _ he)]
    rfl
end
def dInts (l : List Int) : PyData := .list (l.map PyData.int)
theorem dInts_ok {l : List Int} (n : Nat) (h : l.length ≤ 10000) : okD (n + 1) (dInts l) := by
  refine ⟨by rw [List.length_map]; exact h, fun d hd => ?_⟩
  obtain ⟨i, _, rfl⟩ := List.mem_map.mp hd
  cases n <;> trivial
theorem dInts_at {K : PySem.W.Frag} {H : Hp} {p : Addr} {l : List Int} (h : H p = some (.lst (l.map V.int))) : Dp K H (.ref p) (dInts l) := .lst (SqL.of h) (dpa_ints l)
def dOpt : Option Int → PyData
  | none => .none
  | some i => .int i
theorem dpa_opts {K : PySem.W.Frag} {H : Hp} : ∀ l : List (Option Int), DpAll K H (l.map oV) (l.map dOpt)
  | [] => .nil
  | none :: l => .cons .non (dpa_opts l)
  | some i :: l => .cons (.int i) (dpa_opts l)
theorem dOpts_ok {l : List (Option Int)} (n : Nat) (h : l.length ≤ 10000) : okD (n + 1) (.list (l.map dOpt)) := by
  refine ⟨by rw [List.length_map]; exact h, fun d hd => ?_⟩
  obtain ⟨i, _, rfl⟩ := List.mem_map.mp hd
  cases i <;> cases n <;> trivial
/-- two values of the same data -/
theorem equal_go {K : PySem.W.Frag} {H : Hp} {x y : V} {d : PyData} {Q : VK} {E : XK} (hx : Dp K H x d) (hy : Dp K H y d) (ok : okD 3 d) (q : ∀ H', Ex H H' → Q (.bl true) H') : sp_law_equal 4 K [x, y] H Q E := by
  unfold sp_law_equal
  refine ⟨x, y, d, d, rfl, hx, hy, ok, fun H' e => ?_⟩
  rw [same_refl 3 d ok]
  exact q H' e
theorem eqV_int (i : Int) : eqV (.int i) (.int i) = true := beq_self_eq_true i
theorem eqV_ne {i j : Int} (h : i ≠ j) : eqV (.int i) (.int j) = false := beq_false_of_ne h
theorem inV_int (a : Int) : ∀ l : List Int, inV (.int a) (l.map V.int) = l.contains a
  | [] => rfl
  | b :: l => by
    have ih := inV_int a l
    unfold inV at ih ⊢
    rw [List.map_cons, List.any_cons, ih, List.contains_cons]
    congr 1
    show (b == a) = (a == b)
    exact Bool.eq_iff_iff.mpr ⟨fun z => by rw [eq_of_beq z]; exact beq_self_eq_true _, fun z => by rw [eq_of_beq z]; exact beq_self_eq_true _⟩
theorem flat_ints : ∀ l : List Int, (l.map V.int).all flatV = true
  | [] => rfl
  | b :: l => by
    rw [List.map_cons, List.all_cons, flat_ints l]
    rfl
/-- a list's data by its places -/
theorem map_range_nat {α : Type} (n : Nat) (f : Nat → α) (l : List α) (hl : l.length = n) (h : ∀ i, i < n → l[i]? = some (f i)) : (List.range n).map f = l := by
  refine List.ext_getElem? fun i => ?_
  by_cases c : i < n
  · rw [List.getElem?_map, List.getElem?_range c, h i c]
    rfl
  · rw [List.getElem?_eq_none_iff.mpr (by rw [List.length_map, List.length_range]; omega), List.getElem?_eq_none_iff.mpr (by omega)]

end Z
namespace Z
open PySem PySem.Spec PyProof.Rows L2
local macro_rules | `(tactic| walk_at "look") => `(tactic| first | assumption | exact upd_same | exact SqL.of (by assumption) | exact SqT.of (by assumption) | exact SqL.of upd_same | exact SqT.of upd_same)
local macro_rules | `(tactic| walk_at "at") => `(tactic| first | exact at0 | exact at1 | exact at2 | exact at3 | exact ix0 | exact ix1 | assumption | exact atI_nat (by rfl))
local macro_rules | `(tactic| walk_at "sd") => `(tactic| ((try dsimp only); first | assumption | omega | (unfold CMul; omega) | (unfold CDiv; omega) | (unfold CPow; decide) | decide))
local macro_rules | `(tactic| walk_at "st") => `(tactic| first
  | (refine ⟨_, rfl, ?_⟩)
  | (refine ⟨_, _, rfl, rfl, ?_⟩)
  | (refine ⟨rfl, ?_⟩)
  | (refine .inl ⟨_, rfl, ?_⟩)
  | (refine ⟨_, _, _, _, rfl, rfl, (by walk_at "look"), (by walk_at "at"), ?_⟩)
  | (refine ⟨_, _, rfl, .inl (by walk_at "look"), ?_⟩)
  | (refine And.intro (by walk_at "sd") ?_)
  | fail "no step")
local macro_rules | `(tactic| walk_at "go") => `(tactic| repeat' (walk_at "st"))
local macro_rules | `(tactic| walk_at "ans") => `(tactic| (intro Q q; (repeat' (walk_at "st")); exact q))

theorem if_pre {c : TT} {t u : TS} {D : Ends} {σ : L2.St} {H : Hp} (b : Bool) (I : Hp → Prop) (h : ∀ Q : Bool → Hp → Prop, (∀ H', I H' → Q b H') → c σ H Q) (ht : ∀ H', I H' → b = true → t D σ H') (hf : ∀ H', I H' → b = false → u D σ H') : tIfS c t u D σ H := by
  refine h _ fun H' e => ?_
  cases b with
  | true => exact iteT (ht H' e rfl)
  | false => exact iteF (hf H' e rfl)
theorem isBet_lo {n a b : Int} (h : n < a) : isBet (.int n) a b = false := by
  show (decide (a ≤ n) && decide (n ≤ b)) = false
  rw [decide_eq_false (show ¬ a ≤ n by omega), Bool.false_and]
theorem isBet_hi {n a b : Int} (h : b < n) : isBet (.int n) a b = false := by
  show (decide (a ≤ n) && decide (n ≤ b)) = false
  rw [decide_eq_false (show ¬ n ≤ b by omega), Bool.and_false]
/-- one of some values, each of data that passes a test -/
theorem pick_go {K : PySem.W.Frag} {H : Hp} {d p : Addr} {xs : List V} {ds : List PyData} {Q : VK} {E' : XK} (hD : DSt H d) (hp : H p = some (.lst xs)) (np : p ≠ d) (hall : DpAll K H xs ds) (hf : flatDs ds = true) (h0 : xs ≠ []) (h1 : xs.length ≤ 1000)
    (q : ∀ v e H', e ∈ ds → Dp K H' v e → DSt H' d → Fx d H H' → Q v H') : sp_law_pick K ([.ref d, .ref p] ++ []) H Q E' := by
  unfold sp_law_pick
  refine ⟨d, p, xs, rfl, hD, hp, np, h0, h1, fun i v H' hi hD' f => ?_⟩
  obtain ⟨e, he, hv⟩ := dpa_get' (dpa_fxN (dst_noT hD) f hf hall) hi
  exact q v e H' (List.mem_of_getElem? he) hv hD' f
theorem dst_ne {H : Hp} {d x : Addr} (hD : DSt H d) (hx : H x = none) : x ≠ d := by
  obtain ⟨zs, hd⟩ := dst_l hD
  exact (ne_of_none hd hx).symm

end Z
namespace Z
open PySem PySem.Spec PyProof.Rows L2
/-! ### rhymes that go alike -/
def oL (vs : List Ve) (left : Int) (N : Nat) : List Int := (Rh.st (rises vs) N (N - left.toNat)).1
theorem oL_len (vs : List Ve) (left : Int) (N : Nat) : (oL vs left N).length = N - left.toNat := Rh.st_len1 _ _ _
theorem st_take (R : List Int) (N : Nat) {j J : Nat} (h : j ≤ J) (hJ : J ≤ N) : (Rh.st R N J).1.take j = (Rh.st R N j).1 := by
  rw [Rh.st_fst R N J hJ, Rh.st_fst R N j (by omega)]
  unfold Rh.goneL
  rw [← List.map_take, List.take_range, Nat.min_eq_left h]
theorem getD_inj {l : List Int} (nd : l.Nodup) {i j : Nat} (hi : i < l.length) (hj : j < l.length) (e : l.getD i 0 = l.getD j 0) : i = j := by
  rw [List.getD_eq_getElem?_getD, List.getD_eq_getElem?_getD, List.getElem?_eq_getElem hi, List.getElem?_eq_getElem hj] at e
  have e2 : l[i] = l[j] := e
  rcases Nat.lt_trichotomy i j with h | h | h
  · exact absurd e2 (List.pairwise_iff_getElem.mp nd i j hi hj h)
  · exact h
  · exact absurd e2.symm (List.pairwise_iff_getElem.mp nd j i hj hi h)
theorem st_nodup (R : List Int) (N j : Nat) (h : j ≤ N) : (Rh.st R N j).2.Nodup := by
  have : ((Rh.st R N j).1 ++ (Rh.st R N j).2).Nodup := by
    refine (Rh.st_perm R N j h).nodup_iff.mpr ?_
    refine List.Pairwise.map _ (fun a b h z => h ?_) List.nodup_range
    omega
  exact (List.nodup_append.mp this).2.1
theorem alike_rows {R S : List Int} {N J : Nat} (hJ : J ≤ N) (e : (Rh.st R N J).1 = (Rh.st S N J).1) : ∀ j, j ≤ J → (Rh.st R N j).2 = (Rh.st S N j).2 ∧ (j < J → Rh.atR (Rh.rI R j) (N - j) = Rh.atR (Rh.rI S j) (N - j)) := by
  have step : ∀ j, j < J → (Rh.st R N j).2 = (Rh.st S N j).2 → Rh.atR (Rh.rI R j) (N - j) = Rh.atR (Rh.rI S j) (N - j) := fun j hj hrow => by
    have e1 : (Rh.st R N (j + 1)).1 = (Rh.st S N (j + 1)).1 := by
      rw [← st_take R N (show j + 1 ≤ J by omega) hJ, ← st_take S N (show j + 1 ≤ J by omega) hJ, e]
    have hl := Rh.st_len R N j (by omega)
    have hl2 := Rh.st_len S N j (by omega)
    have e2 : (Rh.st R N j).1 ++ [(Rh.st R N j).2.getD (Rh.atR (Rh.rI R j) (Rh.st R N j).2.length) 0] = (Rh.st S N j).1 ++ [(Rh.st S N j).2.getD (Rh.atR (Rh.rI S j) (Rh.st S N j).2.length) 0] := e1
    have e3 := (List.append_inj' e2 rfl).2
    have e4 := List.head_eq_of_cons_eq e3
    rw [← hrow, hl] at e4
    exact getD_inj (st_nodup R N j (by omega)) (by rw [hl]; exact Rh.atR_lt (by omega)) (by rw [hl]; exact Rh.atR_lt (by omega)) e4
  intro j
  induction j with
  | zero => exact fun _ => ⟨rfl, fun h => step 0 h rfl⟩
  | succ j ih =>
    intro hj
    obtain ⟨i1, i2⟩ := ih (by omega)
    have hl := Rh.st_len R N j (by omega)
    have hrow : (Rh.st R N (j + 1)).2 = (Rh.st S N (j + 1)).2 := by
      show Rh.cut (Rh.st R N j).2 (Rh.atR (Rh.rI R j) (Rh.st R N j).2.length) = Rh.cut (Rh.st S N j).2 (Rh.atR (Rh.rI S j) (Rh.st S N j).2.length)
      rw [← i1, hl, i2 (by omega)]
    exact ⟨hrow, fun h => step (j + 1) h hrow⟩
theorem atR_eq {r s : Int} {n : Nat} (hn : 12 ≤ n) (hr : -5 ≤ r ∧ r ≤ 6) (hs : -5 ≤ s ∧ s ≤ 6) (e : Rh.atR r n = Rh.atR s n) : r = s := by
  unfold Rh.atR at e
  have h1 := Int.emod_nonneg (r - 1) (show (n : Int) ≠ 0 by omega)
  have h2 := Int.emod_nonneg (s - 1) (show (n : Int) ≠ 0 by omega)
  have e2 : (r - 1) % (n : Int) = (s - 1) % (n : Int) := by omega
  have h3 : (r - 1 - (s - 1)) % (n : Int) = 0 := by
    rw [Int.sub_emod, e2]
    simp
  have h4 : (n : Int) ∣ r - 1 - (s - 1) := Int.dvd_of_emod_eq_zero h3
  by_cases h : r = s
  · exact h
  · exfalso
    rcases Int.lt_or_gt_of_ne h with h | h
    · have h5 := Int.dvd_neg.mpr h4
      have := Int.le_of_dvd (by omega) h5
      omega
    · have := Int.le_of_dvd (by omega) h4
      omega
theorem rI_12 {vs : List Ve} {left : Int} (ok : RhOk vs left) (i : Int) : Rh.rI (rises vs) i = Rh.rI (rises vs) (i % 12) := by
  unfold Rh.rI
  have l1 := ok.l1
  have l4 := ok.l4
  have hd : ((rises vs).length : Int) ∣ 12 := by
    rw [rises_len]
    have : vs.length = 1 ∨ vs.length = 2 ∨ vs.length = 3 ∨ vs.length = 4 := by omega
    rcases this with h | h | h | h <;> rw [h] <;> decide
  rw [Int.emod_emod_of_dvd _ hd]
/-- alike at one number, twenty-nine above those who are left: alike in every rise -/
theorem alike_all {vs us : List Ve} {left : Int} (ok : RhOk vs left) (ok2 : RhOk us left) (e : oL vs left (left.toNat + 29) = oL us left (left.toNat + 29)) : ∀ i : Int, Rh.rI (rises vs) i = Rh.rI (rises us) i := by
  have lf := ok.lf
  have few : ∀ j : Nat, j < 12 → Rh.rI (rises vs) (j : Int) = Rh.rI (rises us) (j : Int) := fun j hj => by
    unfold oL at e
    have ej : left.toNat + 29 - left.toNat = 29 := by omega
    rw [ej] at e
    have := (alike_rows (J := 29) (by omega) e j (by omega)).2 (by omega)
    exact atR_eq (by omega) (rise_bd ok j) (rise_bd ok2 j) this
  intro i
  rw [rI_12 ok, rI_12 ok2]
  have h0 := Int.emod_nonneg i (show (12 : Int) ≠ 0 by decide)
  have h1 := Int.emod_lt_of_pos i (show (0 : Int) < 12 by decide)
  have := few (i % 12).toNat (by omega)
  rw [Int.toNat_of_nonneg h0] at this
  exact this
theorem lift_alike {R S : List Int} (h : ∀ i, Rh.rI R i = Rh.rI S i) (n : Int) : ∀ (k : Nat) (s p : Int), Rh.lift R n k s p = Rh.lift S n k s p
  | 0, _, _ => rfl
  | k + 1, s, p => by
    rw [Rh.lift_succ, Rh.lift_succ, h, lift_alike h n k]
theorem gone_alike {R S : List Int} (h : ∀ i, Rh.rI R i = Rh.rI S i) (n t : Int) : Rh.goneF R n t = Rh.goneF S n t := by
  unfold Rh.goneF
  rw [h, lift_alike h]
theorem st_alike {R S : List Int} (h : ∀ i, Rh.rI R i = Rh.rI S i) (N : Nat) : ∀ j, Rh.st R N j = Rh.st S N j
  | 0 => rfl
  | j + 1 => by
    show ((Rh.st R N j).1 ++ [(Rh.st R N j).2.getD (Rh.atR (Rh.rI R j) (Rh.st R N j).2.length) 0], Rh.cut (Rh.st R N j).2 (Rh.atR (Rh.rI R j) (Rh.st R N j).2.length)) = _
    rw [st_alike h N j, h]
    rfl
/-- the begin -/
def pB (l m : Int) : Nat := (max l m).toNat
/-- what parting tells -/
def PartOk (vs : List Ve) (l : Int) (us : List Ve) (m : Int) : Option Int → Prop
  | none => ∀ i : Nat, i < 30 → oL vs l (pB l m + i) = oL us m (pB l m + i)
  | some n => ∃ i : Nat, i < 30 ∧ n = ((pB l m + i : Nat) : Int) ∧ (∀ j : Nat, j < i → oL vs l (pB l m + j) = oL us m (pB l m + j)) ∧ oL vs l (pB l m + i) ≠ oL us m (pB l m + i)
theorem part_left {vs us : List Ve} {l m : Int} (ok : RhOk vs l) (ok2 : RhOk us m) (h : PartOk vs l us m none) : l = m := by
  have h0 := congrArg List.length (h 0 (by omega))
  rw [oL_len, oL_len] at h0
  have h1 := ok.lf
  have h2 := ok2.lf
  unfold pB at h0
  rw [Int.max_def] at h0
  split at h0 <;> omega
theorem part_all {vs us : List Ve} {l m : Int} (ok : RhOk vs l) (ok2 : RhOk us m) (h : PartOk vs l us m none) : ∀ i : Int, Rh.rI (rises vs) i = Rh.rI (rises us) i := by
  have hl := part_left ok ok2 h
  subst hl
  refine alike_all ok ok2 ?_
  have := h 29 (by omega)
  unfold pB at this
  rw [Int.max_self] at this
  exact this
theorem part_every {vs us : List Ve} {l m : Int} (ok : RhOk vs l) (ok2 : RhOk us m) (h : PartOk vs l us m none) (N : Nat) : oL vs l N = oL us m N := by
  have hl := part_left ok ok2 h
  subst hl
  unfold oL
  rw [st_alike (part_all ok ok2 h)]
theorem part_uniq {vs us : List Ve} {l m : Int} : ∀ {r s : Option Int}, PartOk vs l us m r → PartOk vs l us m s → r = s
  | none, none, _, _ => rfl
  | none, some n, h, ⟨i, hi, _, _, ne⟩ => absurd (h i hi) ne
  | some n, none, ⟨i, hi, _, _, ne⟩, h => absurd (h i hi) ne
  | some n, some k, ⟨i, hi, e1, f1, n1⟩, ⟨j, hj, e2, f2, n2⟩ => by
    have : i = j := by
      rcases Nat.lt_trichotomy i j with h | h | h
      · exact absurd (f2 i h) n1
      · exact h
      · exact absurd (f1 j h) n2
    subst this
    rw [e1, e2]
theorem part_symm {vs us : List Ve} {l m : Int} : ∀ {r : Option Int}, PartOk vs l us m r → PartOk us m vs l r := by
  have hb : pB m l = pB l m := by
    unfold pB
    rw [Int.max_comm]
  intro r h
  cases r with
  | none =>
    intro i hi
    rw [hb]
    exact (h i hi).symm
  | some n =>
    obtain ⟨i, hi, e1, f1, n1⟩ := h
    refine ⟨i, hi, by rw [hb]; exact e1, fun j hj => ?_, ?_⟩
    · rw [hb]
      exact (f1 j hj).symm
    · rw [hb]
      exact fun z => n1 z.symm
end Z
namespace Z
open PySem PySem.Spec PyProof.Rows L2
local macro_rules | `(tactic| walk_at "look") => `(tactic| first | assumption | exact upd_same | exact SqL.of (by assumption) | exact SqT.of (by assumption) | exact SqL.of upd_same | exact SqT.of upd_same)
local macro_rules | `(tactic| walk_at "at") => `(tactic| first | exact at0 | exact at1 | exact at2 | exact at3 | exact ix0 | exact ix1 | assumption | exact atI_nat (by rfl))
local macro_rules | `(tactic| walk_at "sd") => `(tactic| ((try dsimp only); first | assumption | omega | (unfold CMul; omega) | (unfold CDiv; omega) | (unfold CPow; decide) | decide))
local macro_rules | `(tactic| walk_at "st") => `(tactic| first
  | (refine ⟨_, rfl, ?_⟩)
  | (refine ⟨_, _, rfl, rfl, ?_⟩)
  | (refine ⟨rfl, ?_⟩)
  | (refine .inl ⟨_, rfl, ?_⟩)
  | (refine ⟨_, _, _, _, rfl, rfl, (by walk_at "look"), (by walk_at "at"), ?_⟩)
  | (refine ⟨_, _, rfl, .inl (by walk_at "look"), ?_⟩)
  | (refine And.intro (by walk_at "sd") ?_)
  | fail "no step")
local macro_rules | `(tactic| walk_at "go") => `(tactic| repeat' (walk_at "st"))
local macro_rules | `(tactic| walk_at "ans") => `(tactic| (intro Q q; (repeat' (walk_at "st")); exact q))

/-! ### parting, alike -/
theorem eqvAll_ints : ∀ a b : List Int, PyData.eqvAll (a.map PyData.int) (b.map PyData.int) = decide (a = b)
  | [], [] => rfl
  | [], _ :: _ => rfl
  | _ :: _, [] => rfl
  | x :: a, y :: b => by
    show ((x == y) && PyData.eqvAll (a.map PyData.int) (b.map PyData.int)) = _
    rw [eqvAll_ints a b]
    by_cases h1 : x = y
    · subst h1
      rw [beq_self_eq_true, Bool.true_and]
      by_cases h2 : a = b
      · rw [decide_eq_true h2, decide_eq_true (by rw [h2])]
      · rw [decide_eq_false h2, decide_eq_false fun z => h2 (List.cons.inj z).2]
    · rw [beq_false_of_ne h1, Bool.false_and, decide_eq_false fun z => h1 (List.cons.inj z).1]
theorem ne_ints {K : PySem.W.Frag} {H : Hp} {p q : Addr} {a b : List Int} {Q : VK} (hp : H p = some (.lst (a.map V.int))) (hq : H q = some (.lst (b.map V.int))) (k : Q (.bl (!decide (a = b))) H) : rNeD K (.ref p) (.ref q) H Q := by
  refine ⟨dInts a, dInts b, dInts_at hp, dInts_at hq, shaped_ints a, shaped_ints b, ?_⟩
  have : PyData.eqv (dInts a) (dInts b) = decide (a = b) := eqvAll_ints a b
  rw [this]
  exact k
@[irreducible] def sp_parting (K : PySem.W.Frag) : Sp := fun ws H Q _ => ∃ (a b : Addr) (vs us : List Ve) (l m : Int), ws = [.ref a, .ref b] ∧ RhAt K H a vs l ∧ RhAt K H b us m ∧ RhOk vs l ∧ RhOk us m ∧
  ∀ (r : Option Int) (H' : Hp), PartOk vs l us m r → Ex H H' → Q (oV r) H'
def t_parting_1a_0a_0 (K : PySem.W.Frag) (E : XK) : TS := (tRet (tVar 3))

@[irreducible] def t_parting_1a_0 (K : PySem.W.Frag) (E : XK) : TS := (tIfS (tTest (tOp (rNeD K) (tOp (rIxT K) (tCall (sp_order_of K) [] E0 (tCons (tVar 0) (tCons (tVar 3) tNil))) (tC (.int 0))) (tOp (rIxT K) (tCall (sp_order_of K) [] E0 (tCons (tVar 1) (tCons (tVar 3) tNil))) (tC (.int 0)))))
    (t_parting_1a_0a_0 K E) tNext)

def t_parting_2 (K : PySem.W.Frag) (E : XK) : TS := (tRet (tC .non))

@[irreducible] def t_parting_1 (K : PySem.W.Frag) (E : XK) : TS := tSeq (tFor (iRng2 (tCons (tVar 2) (tCons (tOp oAdd (tVar 2) (tC (.int 30))) tNil))) (gName 3)
    (t_parting_1a_0 K E)) (t_parting_2 K E)

def t_parting_0 (K : PySem.W.Frag) (E : XK) : TS := tSeq (tAsg (tCB cMax2 (tCons (tFld K (tVar 0) "own_left") (tCons (tFld K (tVar 1) "own_left") tNil))) (gName 2)) (t_parting_1 K E)

theorem pure_parting {K : PySem.W.Frag} (T : RhC K) (ws : List V) (H : Hp) (Q : VK) (E : XK) (h : sp_parting K ws H Q E) : t_parting_0 K E { nx := fun _ H' => Q .non H', rt := Q } (start ["one", "other", "begin", "n"] ws) H := by
  unfold sp_parting at h
  obtain ⟨a, b, vs, us, l, m, rfl, R, S, ok, ok2, k⟩ := h
  have lf := ok.lf
  have lf2 := ok2.lf
  obtain ⟨dx, tv, tr, h1, h2, h3⟩ := id R
  obtain ⟨dy, uv, ur, g1, g2, g3⟩ := id S
  show t_parting_0 K E _ [some (.ref a), some (.ref b), none, none] H
  refine ⟨_, rfl, a, _, dx, _, _, rfl, h1, T.cl, T.nl, rhF_l _ _ _, _, rfl, b, _, dy, _, _, rfl, g1, T.cl, T.nl, rhF_l _ _ _, _, _, rfl, ?_⟩
  have eB : (if m > l then m else l) = ((pB l m : Nat) : Int) := by
    unfold pB
    rw [Int.max_def]
    split <;> split <;> omega
  rw [eB]
  have hB : pB l m ≤ 3 := by
    unfold pB
    rw [Int.max_def]
    split <;> omega
  have hB2 : l ≤ (pB l m : Int) ∧ m ≤ (pB l m : Int) := by
    unfold pB
    rw [Int.max_def]
    split <;> omega
  show t_parting_1 K E { nx := fun _ H' => Q .non H', rt := Q } [some (.ref a), some (.ref b), some (.int (pB l m : Nat)), none] H
  unfold t_parting_1
  refine ⟨_, rfl, _, rfl, _, _, rfl, rfl, _, _, rfl, ⟨by omega, by omega, by omega, by omega⟩, for_range (fun i σ H' => Ex H H' ∧ (∀ j : Nat, j < i → oL vs l (pB l m + j) = oL us m (pB l m + j)) ∧ ∃ u, σ = [some (.ref a), some (.ref b), some (.int (pB l m : Nat)), u]) ⟨ex_refl _, fun j hj => absurd hj (by omega), none, rfl⟩ ?_ ?_⟩
  · rintro i σ H1 hi ⟨e1, heq, u, rfl⟩
    have hi30 : i < 30 := by omega
    have eN : ((pB l m : Nat) : Int) + (i : Int) = ((pB l m + i : Nat) : Int) := by omega
    show t_parting_1a_0 K E _ [some (.ref a), some (.ref b), some (.int (pB l m : Nat)), some (.int (((pB l m : Nat) : Int) + (i : Int)))] H1
    rw [eN]
    unfold t_parting_1a_0
    refine if_goH (!decide (oL vs l (pB l m + i) = oL us m (pB l m + i))) (fun Q z => ?_) (fun H2 e2 c => ?_) (fun H2 e2 c => ?_)
    · refine ⟨_, rfl, _, rfl, ?_⟩
      unfold sp_order_of
      refine ⟨a, vs, l, pB l m + i, rfl, rh_ex e1 R, ok, by omega, by omega, fun p q r H2 _ _ _ e2 hp hq _ => ?_⟩
      refine ⟨p, _, 0, _, rfl, rfl, SqT.of hp, at0, _, rfl, _, rfl, b, us, m, pB l m + i, rfl, rh_ex (ex_trans e1 e2) S, ok2, by omega, by omega, fun p2 q2 r2 H3 _ _ _ e3 hp2 hq2 _ => ?_⟩
      refine ⟨p2, _, 0, _, rfl, rfl, SqT.of hp2, at0, ne_ints (e3 _ _ hq) hq2 ⟨_, rfl, z H3 (ex_trans e2 e3)⟩⟩
    · refine ⟨_, rfl, ?_⟩
      have ne : oL vs l (pB l m + i) ≠ oL us m (pB l m + i) := fun z => by
        rw [decide_eq_true z] at c
        cases c
      exact k (some ((pB l m + i : Nat) : Int)) H2 ⟨i, hi30, rfl, heq, ne⟩ (ex_trans e1 e2)
    · have eq : oL vs l (pB l m + i) = oL us m (pB l m + i) := by
        by_cases z : oL vs l (pB l m + i) = oL us m (pB l m + i)
        · exact z
        · rw [decide_eq_false z] at c
          cases c
      refine ⟨ex_trans e1 e2, fun j hj => ?_, _, rfl⟩
      by_cases h : j = i
      · rw [h]
        exact eq
      · exact heq j (by omega)
  · rintro σ H1 ⟨e1, heq, u, rfl⟩
    exact k none H1 (fun i hi => heq i (by omega)) e1
@[irreducible] def sp_alike (K : PySem.W.Frag) : Sp := fun ws H Q _ => ∃ (a b : Addr) (vs us : List Ve) (l m : Int), ws = [.ref a, .ref b] ∧ RhAt K H a vs l ∧ RhAt K H b us m ∧ RhOk vs l ∧ RhOk us m ∧
  ∀ (r : Option Int) (H' : Hp), PartOk vs l us m r → Ex H H' → Q (.bl r.isNone) H'
def t_alike_0 (K : PySem.W.Frag) (E : XK) : TS := (tRet (tOp oIsN (tCall (sp_parting K) [] E0 (tCons (tVar 0) (tCons (tVar 1) tNil))) (tC .non)))

theorem pure_alike {K : PySem.W.Frag} (ws : List V) (H : Hp) (Q : VK) (E : XK) (h : sp_alike K ws H Q E) : t_alike_0 K E { nx := fun _ H' => Q .non H', rt := Q } (start ["one", "other"] ws) H := by
  unfold sp_alike at h
  obtain ⟨a, b, vs, us, l, m, rfl, R, S, ok, ok2, k⟩ := h
  refine ⟨_, rfl, _, rfl, ?_⟩
  unfold sp_parting
  refine ⟨a, b, vs, us, l, m, rfl, R, S, ok, ok2, fun r H' hr e => ⟨rfl, ?_⟩⟩
  rw [oV_none]
  exact k r H' hr e
/-! ### great numbers -/
@[irreducible] def sp_law_great (K : PySem.W.Frag) : Sp := fun ws H Q _ => ∃ (d : Addr), ws = [.ref d] ∧ DSt H d ∧ ∀ (n : Int) (H' : Hp), 100000 ≤ n → n ≤ GREAT → DSt H' d → Fx d H H' → Q (.int n) H'
def t_law_great_1 (K : PySem.W.Frag) (E : XK) : TS := (tRet (tOp oAdd (tVar 1) (tCall (sp_law_below K) [] E0 (tCons (tVar 0) (tCons (tC (.int 50)) tNil)))))

def t_law_great_0 (K : PySem.W.Frag) (E : XK) : TS := tSeq (tAsg (tCall (sp_law_pick K) [] E0 (tCons (tVar 0) (tCons (tLst (tCons (tOp oPow (tC (.int 10)) (tC (.int 5))) (tCons (tOp oPow (tC (.int 10)) (tC (.int 9))) (tCons (tOp oPow (tC (.int 10)) (tC (.int 18))) (tCons (tOp oPow (tC (.int 10)) (tC (.int 29))) (tCons (tOp oSub (tOp oPow (tC (.int 10)) (tC (.int 30))) (tC (.int 49))) tNil)))))) tNil))) (gName 1)) (t_law_great_1 K E)

theorem pure_law_great {K : PySem.W.Frag} (ws : List V) (H : Hp) (Q : VK) (E : XK) (h : sp_law_great K ws H Q E) : t_law_great_0 K E { nx := fun _ H' => Q .non H', rt := Q } (start ["_law_d", "_law_power"] ws) H := by
  unfold sp_law_great at h
  obtain ⟨d, rfl, hD, k⟩ := h
  refine ⟨_, rfl, 10, 5, rfl, rfl, ⟨by decide, by decide, by decide⟩, 10, 9, rfl, rfl, ⟨by decide, by decide, by decide⟩, 10, 18, rfl, rfl, ⟨by decide, by decide, by decide⟩, 10, 29, rfl, rfl, ⟨by decide, by decide, by decide⟩, 10, 30, rfl, rfl, ⟨by decide, by decide, by decide⟩, _, _, rfl, rfl, (by show 5 ≤ sizeLine; decide), fun p hp => ?_⟩
  have e1 := ex_new (o := .lst [.int ((10 : Int) ^ (5 : Int).toNat), .int ((10 : Int) ^ (9 : Int).toNat), .int ((10 : Int) ^ (18 : Int).toNat), .int ((10 : Int) ^ (29 : Int).toNat), .int ((10 : Int) ^ (30 : Int).toNat - 49)]) hp
  refine pick_go (ds := [.int ((10 : Int) ^ (5 : Int).toNat), .int ((10 : Int) ^ (9 : Int).toNat), .int ((10 : Int) ^ (18 : Int).toNat), .int ((10 : Int) ^ (29 : Int).toNat), .int ((10 : Int) ^ (30 : Int).toNat - 49)]) (dst_ex e1 hD) upd_same (dst_ne hD hp)
    (.cons (.int _) (.cons (.int _) (.cons (.int _) (.cons (.int _) (.cons (.int _) .nil))))) rfl (by simp) (by show 5 ≤ 1000; decide) fun v e H' he hv hD' f => ?_
  have hb : ∃ x : Int, v = .int x ∧ 100000 ≤ x ∧ x ≤ GREAT - 49 := by
    simp only [List.mem_cons, List.not_mem_nil, or_false] at he
    rcases he with rfl | rfl | rfl | rfl | rfl
    all_goals exact ⟨_, dp_int hv, by decide, by decide⟩
  obtain ⟨x, rfl, x1, x2⟩ := hb
  refine ⟨_, rfl, _, rfl, ?_⟩
  unfold sp_law_below
  refine ⟨d, 50, rfl, hD', by decide, by decide, fun r H2 r0 r1 hD2 f2 => ⟨_, _, rfl, rfl, ?_⟩⟩
  exact k (x + r) H2 (by omega) (by omega) hD2 (fx_trans (fx_ex e1) (fx_trans f f2))

end Z
namespace Z
open PySem PySem.Spec PyProof.Rows L2
local macro_rules | `(tactic| walk_at "look") => `(tactic| first | assumption | exact upd_same | exact SqL.of (by assumption) | exact SqT.of (by assumption) | exact SqL.of upd_same | exact SqT.of upd_same)
local macro_rules | `(tactic| walk_at "at") => `(tactic| first | exact at0 | exact at1 | exact at2 | exact at3 | exact ix0 | exact ix1 | assumption | exact atI_nat (by rfl))
local macro_rules | `(tactic| walk_at "sd") => `(tactic| ((try dsimp only); first | assumption | omega | (unfold CMul; omega) | (unfold CDiv; omega) | (unfold CPow; decide) | decide))
local macro_rules | `(tactic| walk_at "st") => `(tactic| first
  | (refine ⟨_, rfl, ?_⟩)
  | (refine ⟨_, _, rfl, rfl, ?_⟩)
  | (refine ⟨rfl, ?_⟩)
  | (refine .inl ⟨_, rfl, ?_⟩)
  | (refine ⟨_, _, _, _, rfl, rfl, (by walk_at "look"), (by walk_at "at"), ?_⟩)
  | (refine ⟨_, _, rfl, .inl (by walk_at "look"), ?_⟩)
  | (refine And.intro (by walk_at "sd") ?_)
  | fail "no step")
local macro_rules | `(tactic| walk_at "go") => `(tactic| repeat' (walk_at "st"))
local macro_rules | `(tactic| walk_at "ans") => `(tactic| (intro Q q; (repeat' (walk_at "st")); exact q))

/-! ### a rhyme near another -/
@[irreducible] def sp_law_near (K : PySem.W.Frag) : Sp := fun ws H Q _ => ∃ (d : Addr) (t : V) (vs : List Ve) (left : Int), ws = [.ref d, t] ∧ DSt H d ∧ Dp K H t (tD vs left) ∧ RhOk vs left ∧
  ∀ (u : V) (us : List Ve) (m : Int) (H' : Hp), RhOk us m → Dp K H' u (tD us m) → DSt H' d → Fx d H H' → Q u H'
def t_law_near_2a_0 (K : PySem.W.Frag) (E : XK) : TS := (tRet (tTup (tCons (tOp (rCatA K) (tVar 2) (tVar 2)) (tCons (tVar 3) tNil))))

def t_law_near_3a_0 (K : PySem.W.Frag) (E : XK) : TS := (tRet (tTup (tCons (tVar 2) (tCons (tOp oAdd (tCall (sp_law_below K) [] E0 (tCons (tVar 0) (tCons (tC (.int 3)) tNil))) (tC (.int 1))) tNil))))

def t_law_near_4a_0 (K : PySem.W.Frag) (E : XK) : TS := (tRet (tTup (tCons (tOp (rRepA K) (tSl (rSlA K) (tVar 2) tNoPart (tPart (tC (.int 1)))) (tCB (cLen K) (tCons (tVar 2) tNil))) (tCons (tVar 3) tNil))))

def t_law_near_8 (K : PySem.W.Frag) (E : XK) : TS := (tRet (tTup (tCons (tOp (rCatA K) (tOp (rCatA K) (tSl (rSlA K) (tVar 2) tNoPart (tPart (tVar 5))) (tTup (tCons (tVar 8) tNil))) (tSl (rSlA K) (tVar 2) (tPart (tOp oAdd (tVar 5) (tC (.int 1)))) tNoPart)) (tCons (tVar 3) tNil))))

def t_law_near_7 (K : PySem.W.Frag) (E : XK) : TS := tSeq (tAsg (tIf (tTest (tOp rEq (tVar 4) (tC (.int 3)))) (tTup (tCons (tVar 6) (tCons (tOp oAdd (tC (.int 1)) (tCall (sp_law_below K) [] E0 (tCons (tVar 0) (tCons (tC (.int 6)) tNil)))) tNil))) (tCall (sp_law_pick K) [] E0 (tCons (tVar 0) (tCons (tLst (tCons (tTup (tCons (tC (.str "on")) (tCons (tVar 7) tNil))) (tCons (tTup (tCons (tC (.str "back")) (tCons (tVar 7) tNil))) tNil))) tNil)))) (gName 8)) (t_law_near_8 K E)

def t_law_near_6 (K : PySem.W.Frag) (E : XK) : TS := tSeq (tAsg (tOp (rIxT K) (tVar 2) (tVar 5)) (gTup K 2 (gCons (gName 6) (gCons (gName 7) gNil)))) (t_law_near_7 K E)

def t_law_near_5 (K : PySem.W.Frag) (E : XK) : TS := tSeq (tAsg (tCall (sp_law_below K) [] E0 (tCons (tVar 0) (tCons (tCB (cLen K) (tCons (tVar 2) tNil)) tNil))) (gName 5)) (t_law_near_6 K E)

@[irreducible] def t_law_near_4 (K : PySem.W.Frag) (E : XK) : TS := tSeq (tIfS (tTest (tOp rEq (tVar 4) (tC (.int 2))))
    (t_law_near_4a_0 K E) tNext) (t_law_near_5 K E)

@[irreducible] def t_law_near_3 (K : PySem.W.Frag) (E : XK) : TS := tSeq (tIfS (tTest (tOp rEq (tVar 4) (tC (.int 1))))
    (t_law_near_3a_0 K E) tNext) (t_law_near_4 K E)

@[irreducible] def t_law_near_2 (K : PySem.W.Frag) (E : XK) : TS := tSeq (tIfS (tAnd (tTest (tOp rEq (tVar 4) (tC (.int 0)))) (tTest (tOp oLt (tCB (cLen K) (tCons (tVar 2) tNil)) (tC (.int 3)))))
    (t_law_near_2a_0 K E) tNext) (t_law_near_3 K E)

def t_law_near_1 (K : PySem.W.Frag) (E : XK) : TS := tSeq (tAsg (tCall (sp_law_below K) [] E0 (tCons (tVar 0) (tCons (tC (.int 5)) tNil))) (gName 4)) (t_law_near_2 K E)

def t_law_near_0 (K : PySem.W.Frag) (E : XK) : TS := tSeq (tAsg (tVar 1) (gTup K 2 (gCons (gName 2) (gCons (gName 3) gNil)))) (t_law_near_1 K E)

theorem dpa_app {K : PySem.W.Frag} {H : Hp} : ∀ {vs ws : List V} {ds es : List PyData}, DpAll K H vs ds → DpAll K H ws es → DpAll K H (vs ++ ws) (ds ++ es)
  | _, _, _, _, .nil, h => h
  | _, _, _, _, .cons g r, h => .cons g (dpa_app r h)
theorem dpa_take {K : PySem.W.Frag} {H : Hp} : ∀ (n : Nat) {vs : List V} {ds : List PyData}, DpAll K H vs ds → DpAll K H (vs.take n) (ds.take n)
  | 0, _, _, _ => by
    rw [List.take_zero, List.take_zero]
    exact .nil
  | n + 1, _, _, .nil => .nil
  | n + 1, _, _, .cons g r => .cons g (dpa_take n r)
theorem dpa_dropN {K : PySem.W.Frag} {H : Hp} : ∀ (n : Nat) {vs : List V} {ds : List PyData}, DpAll K H vs ds → DpAll K H (vs.drop n) (ds.drop n)
  | 0, _, _, h => h
  | n + 1, _, _, .nil => .nil
  | n + 1, _, _, .cons _ r => dpa_dropN n r
theorem dpa_nil' {K : PySem.W.Frag} {H : Hp} {vs : List V} (h : DpAll K H vs []) : vs = [] := by
  cases h
  rfl
/-- two tuples of data, one behind the other -/
theorem catA_go {K : PySem.W.Frag} {H : Hp} {x y : V} {ds es : List PyData} {Q : VK} (hx : Dp K H x (.tuple ds)) (hy : Dp K H y (.tuple es)) (hl : ds.length + es.length ≤ 1000) (q : ∀ v H', Ex H H' → Dp K H' v (.tuple (ds ++ es)) → Q v H') : rCatA K x y H Q := by
  obtain ⟨a, xs, rfl, ha, da⟩ := dp_tup (id hx)
  obtain ⟨b, ys, rfl, hb, db⟩ := dp_tup (id hy)
  have la := dpa_len da
  have lb := dpa_len db
  refine ⟨a, b, xs, ys, rfl, rfl, ha, hb, Nat.le_trans (show xs.length + ys.length ≤ 1000 by omega) (by decide), fun h0 => ?_, fun h0 h1 => ?_, fun h0 h1 p hp => ?_⟩
  · subst h0
    have : ds = [] := by
      cases ds with
      | nil => rfl
      | cons _ _ => cases la
    subst this
    exact q _ H (ex_refl _) hy
  · subst h1
    have : es = [] := by
      cases es with
      | nil => rfl
      | cons _ _ => cases lb
    subst this
    rw [List.append_nil] at q
    exact q _ H (ex_refl _) hx
  · exact q _ _ (ex_new hp) (.tup (SqT.of upd_same) (dpa_ex (ex_new hp) (dpa_app da db)))
/-- a part of a tuple of data -/
theorem slA_to {K : PySem.W.Frag} {H : Hp} {x : V} {ds : List PyData} {Q : VK} {i : Nat} (hi : i ≤ ds.length) (hx : Dp K H x (.tuple ds)) (q : ∀ v H', Ex H H' → Dp K H' v (.tuple (ds.take i)) → Q v H') : rSlA K x none (some (i : Int)) H Q := by
  obtain ⟨a, xs, rfl, ha, da⟩ := dp_tup (id hx)
  have la := dpa_len da
  refine ⟨a, xs, rfl, ha, fun h => ?_, fun _ p hp => ?_⟩
  · rw [HT.sIx_nat] at h
    have e : i = ds.length := by omega
    rw [e, List.take_length] at q
    exact q _ H (ex_refl _) hx
  · rw [cut_to _ _ (by omega)]
    exact q _ _ (ex_new hp) (.tup (SqT.of upd_same) (dpa_ex (ex_new hp) (dpa_take i da)))
theorem slA_from {K : PySem.W.Frag} {H : Hp} {x : V} {ds : List PyData} {Q : VK} {i : Nat} {z : Int} (hz : z = (i : Int)) (hi : i ≤ ds.length) (hx : Dp K H x (.tuple ds)) (q : ∀ v H', Ex H H' → Dp K H' v (.tuple (ds.drop i)) → Q v H') : rSlA K x (some z) none H Q := by
  subst hz
  obtain ⟨a, xs, rfl, ha, da⟩ := dp_tup (id hx)
  have la := dpa_len da
  refine ⟨a, xs, rfl, ha, fun h => ?_, fun _ p hp => ?_⟩
  · rw [HT.sIx_nat] at h
    have e : i = 0 := by omega
    rw [e, List.drop_zero] at q
    exact q _ H (ex_refl _) hx
  · rw [cut_from _ _ (by omega)]
    exact q _ _ (ex_new hp) (.tup (SqT.of upd_same) (dpa_ex (ex_new hp) (dpa_dropN i da)))
theorem dpa_rep {K : PySem.W.Frag} {H : Hp} {vs : List V} {ds : List PyData} (h : DpAll K H vs ds) : ∀ n : Nat, DpAll K H (List.replicate n vs).flatten (List.replicate n ds).flatten
  | 0 => .nil
  | n + 1 => by
    rw [List.replicate_succ, List.replicate_succ, List.flatten_cons, List.flatten_cons]
    exact dpa_app h (dpa_rep h n)
/-- the answer: (verses, left), new -/
theorem near_ret {K : PySem.W.Frag} {H : Hp} {v : V} {us : List Ve} {m : Int} {Q : VK} (hv : Dp K H v (vsD us)) (q : ∀ u H', Ex H H' → Dp K H' u (tD us m) → Q u H') : 2 ≤ sizeLine ∧ ∀ p, H p = none → Q (.ref p) (upd H p (.tup [v, .int m])) :=
  ⟨by decide, fun p hp => q _ _ (ex_new hp) (.tup (SqT.of upd_same) (.cons (dp_ex (ex_new hp) hv) (.cons (.int _) .nil)))⟩
theorem rhOk_set {vs : List Ve} {left : Int} (ok : RhOk vs left) {k : Nat} (hk : k < vs.length) {v : Ve} (hv : 1 ≤ v.2 ∧ v.2 ≤ 6) : RhOk (vs.take k ++ [v] ++ vs.drop (k + 1)) left := by
  have l1 := ok.l1
  have l4 := ok.l4
  refine ⟨?_, ?_, fun w hw => ?_, ok.lf⟩
  · rw [List.length_append, List.length_append]
    show 1 ≤ _ + 1 + _
    omega
  · rw [List.length_append, List.length_append, List.length_take, List.length_drop]
    show min k vs.length + 1 + (vs.length - (k + 1)) ≤ 4
    omega
  · rcases List.mem_append.mp hw with hw | hw
    · rcases List.mem_append.mp hw with hw | hw
      · exact ok.cnt w (List.mem_of_mem_take hw)
      · rw [List.mem_singleton.mp hw]
        exact hv
    · exact ok.cnt w (List.mem_of_mem_drop hw)
theorem pure_law_near {K : PySem.W.Frag} (ws : List V) (H : Hp) (Q : VK) (E : XK) (h : sp_law_near K ws H Q E) : t_law_near_0 K E { nx := fun _ H' => Q .non H', rt := Q } (start ["_law_d", "_law_t", "_law_verses", "_law_left", "_law_pick_here", "_law_k", "_law_way", "_law_count", "_law_verse"] ws) H := by
  unfold sp_law_near at h
  obtain ⟨d, t, vs, left, rfl, hD, hT, ok, k⟩ := h
  obtain ⟨a, v, rfl, hs, hv⟩ := tD_at hT
  have l1 := ok.l1
  have l4 := ok.l4
  have lf := ok.lf
  have hlm : (vs.map vD).length = vs.length := List.length_map ..
  refine ⟨_, rfl, a, _, rfl, hs, rfl, _, _, rfl, _, _, rfl, rfl, ?_⟩
  show t_law_near_1 K E { nx := fun _ H' => Q .non H', rt := Q } [some (.ref d), some (.ref a), some v, some (.int left), none, none, none, none, none] H
  refine ⟨_, rfl, ?_⟩
  unfold sp_law_below
  refine ⟨d, 5, rfl, hD, by decide, by decide, fun x H1 _ _ hD1 f1 => ?_⟩
  have hv1 := dp_fxN (dst_noT hD) f1 (vsD_flat vs) hv
  obtain ⟨b, xs, rfl, hb, hall⟩ := dp_tup (id hv1)
  have hxl : xs.length = vs.length := by
    have := dpa_len hall
    rw [hlm] at this
    exact this
  show t_law_near_2 K E { nx := fun _ H' => Q .non H', rt := Q } [some (.ref d), some (.ref a), some (.ref b), some (.int left), some (.int x), none, none, none, none] H1
  unfold t_law_near_2
  refine if_go (decide (x = 0) && decide ((vs.length : Int) < 3)) (fun Q z => and_go (decide (x = 0)) (decide ((vs.length : Int) < 3)) (fun Q z => ⟨_, rfl, rfl, _, rfl, by rw [d_int]; exact z⟩) (fun _ Q z => ⟨_, rfl, b, xs, rfl, .inr hb, _, _, rfl, rfl, _, rfl, by rw [hxl]; exact z⟩) z) (fun c => ?_) (fun _ => ?_)
  · have c2 := of_decide_eq_true (Bool.and_eq_true_iff.mp c).2
    refine ⟨_, rfl, _, rfl, catA_go hv1 hv1 (by rw [hlm]; omega) fun w H2 e2 hw => ?_⟩
    have hw : Dp K H2 w (vsD (vs ++ vs)) := by
      show Dp K H2 w (.tuple ((vs ++ vs).map vD))
      rw [List.map_append]
      exact hw
    refine ⟨_, rfl, near_ret hw fun u H3 e3 hu => k u (vs ++ vs) left H3 ⟨?_, ?_, fun y hy => ?_, ok.lf⟩ hu (dst_ex (ex_trans e2 e3) hD1) (fx_trans f1 (fx_ex (ex_trans e2 e3)))⟩
    · rw [List.length_append]
      omega
    · rw [List.length_append]
      omega
    · rcases List.mem_append.mp hy with hy | hy <;> exact ok.cnt y hy
  show t_law_near_3 K E { nx := fun _ H' => Q .non H', rt := Q } [some (.ref d), some (.ref a), some (.ref b), some (.int left), some (.int x), none, none, none, none] H1
  unfold t_law_near_3
  refine if_go (decide (x = 1)) (fun Q z => ⟨_, rfl, rfl, _, rfl, by rw [d_int]; exact z⟩) (fun c => ?_) (fun _ => ?_)
  · refine ⟨_, rfl, _, rfl, ?_⟩
    unfold sp_law_below
    refine ⟨d, 3, rfl, hD1, by decide, by decide, fun y H2 y0 y1 hD2 f2 => ⟨_, _, rfl, rfl, ?_⟩⟩
    have hv2 := dp_fxN (dst_noT hD1) f2 (vsD_flat vs) hv1
    exact near_ret hv2 fun u H3 e3 hu => k u vs (y + 1) H3 ⟨l1, l4, ok.cnt, by omega, by omega⟩ hu (dst_ex e3 hD2) (fx_trans f1 (fx_trans f2 (fx_ex e3)))
  show t_law_near_4 K E { nx := fun _ H' => Q .non H', rt := Q } [some (.ref d), some (.ref a), some (.ref b), some (.int left), some (.int x), none, none, none, none] H1
  unfold t_law_near_4
  refine if_go (decide (x = 2)) (fun Q z => ⟨_, rfl, rfl, _, rfl, by rw [d_int]; exact z⟩) (fun c => ?_) (fun _ => ?_)
  · obtain ⟨ve, rest, hvs⟩ : ∃ ve rest, vs = ve :: rest := by
      cases vs with
      | nil => cases l1
      | cons ve rest => exact ⟨ve, rest, rfl⟩
    have hve := ok.cnt ve (by rw [hvs]; exact List.mem_cons_self ..)
    have hfin : ∀ (w : V) (H2 : Hp), Ex H1 H2 → Dp K H2 w (vsD (List.replicate vs.length ve)) → 2 ≤ sizeLine ∧ ∀ p, H2 p = none → Q (.ref p) (upd H2 p (.tup [w, .int left])) := fun w H2 e2 hw =>
      near_ret hw fun u H3 e3 hu => k u (List.replicate vs.length ve) left H3 ⟨by rw [List.length_replicate]; exact l1, by rw [List.length_replicate]; exact l4, fun y hy => by rw [List.eq_of_mem_replicate hy]; exact hve, ok.lf⟩ hu (dst_ex (ex_trans e2 e3) hD1) (fx_trans f1 (fx_ex (ex_trans e2 e3)))
    refine ⟨_, rfl, 1, rfl, slA_to (i := 1) (by rw [hlm]; exact l1) hv1 fun w H2 e2 hw => ?_⟩
    have ht1 : (vs.map vD).take 1 = [vD ve] := by
      rw [hvs]
      rfl
    rw [ht1] at hw
    obtain ⟨c2, ys, rfl, hc2, hys⟩ := dp_tup (id hw)
    have hyl := dpa_len hys
    refine ⟨_, rfl, b, xs, rfl, .inr (sqt_ex e2 hb), c2, _, ys, rfl, rfl, hc2, (by intro z; rw [z] at hyl; cases hyl), by omega, by omega, (by rw [hyl]; show 1 ≤ 1000; decide), fun h1 => ?_, fun h2 p hp => ?_⟩
    · have e1 : vs.length = 1 := by omega
      rw [e1] at hfin
      exact ⟨_, rfl, hfin _ H2 e2 hw⟩
    · have e3 := ex_new (o := .tup (List.replicate (xs.length : Int).toNat ys).flatten) hp
      have hn : (xs.length : Int).toNat = vs.length := by omega
      rw [hn] at e3 ⊢
      refine ⟨_, rfl, hfin _ _ (ex_trans e2 e3) ?_⟩
      have hr : (List.replicate vs.length ve).map vD = (List.replicate vs.length [vD ve]).flatten := by
        generalize vs.length = n
        induction n with
        | zero => rfl
        | succ n ih =>
          rw [List.replicate_succ, List.map_cons, ih, List.replicate_succ, List.flatten_cons]
          rfl
      show Dp K _ _ (.tuple ((List.replicate vs.length ve).map vD))
      rw [hr]
      exact .tup (SqT.of upd_same) (dpa_ex e3 (dpa_rep hys _))
  show t_law_near_5 K E { nx := fun _ H' => Q .non H', rt := Q } [some (.ref d), some (.ref a), some (.ref b), some (.int left), some (.int x), none, none, none, none] H1
  refine ⟨_, rfl, _, rfl, b, xs, rfl, .inr hb, ?_⟩
  unfold sp_law_below
  refine ⟨d, _, rfl, hD1, by omega, by omega, fun y H2 y0 y1 hD2 f2 => ?_⟩
  have hv2 := dp_fxN (dst_noT hD1) f2 (vsD_flat vs) hv1
  have hb2 := sqt_fxN (dst_noT hD1) f2 hb
  have hall2 : DpAll K H2 xs (vs.map vD) := dpa_fxN (dst_noT hD1) f2 (show flatDs (vs.map vD) = true from vsD_flat vs) hall
  obtain ⟨i, rfl⟩ := Int.eq_ofNat_of_zero_le y0
  have hi : i < vs.length := by omega
  have hix : i < xs.length := by omega
  obtain ⟨ve, tt, hve, hxe, ht⟩ := vs_at hall2 (List.getElem?_eq_getElem hix)
  have hvc := ok.cnt ve (List.mem_of_getElem? hve)
  show t_law_near_6 K E { nx := fun _ H' => Q .non H', rt := Q } [some (.ref d), some (.ref a), some (.ref b), some (.int left), some (.int x), some (.int (i : Nat)), none, none, none] H2
  refine ⟨_, rfl, _, rfl, b, xs, _, _, rfl, rfl, hb2, at_of rfl (List.getElem?_eq_getElem hix), ?_⟩
  rw [hxe]
  refine ⟨tt, _, rfl, ht, rfl, _, _, rfl, _, _, rfl, rfl, ?_⟩
  show t_law_near_7 K E { nx := fun _ H' => Q .non H', rt := Q } [some (.ref d), some (.ref a), some (.ref b), some (.int left), some (.int x), some (.int (i : Nat)), some (.str (wayS ve.1)), some (.int ve.2), none] H2
  -- the end
  have fin : ∀ (w : V) (nv : Ve) (H3 : Hp), (1 ≤ nv.2 ∧ nv.2 ≤ 6) → Dp K H3 w (vD nv) → DSt H3 d → Fx d H H3 → Dp K H3 (.ref b) (vsD vs) → t_law_near_8 K E { nx := fun _ H' => Q .non H', rt := Q } [some (.ref d), some (.ref a), some (.ref b), some (.int left), some (.int x), some (.int (i : Nat)), some (.str (wayS ve.1)), some (.int ve.2), some w] H3 := by
    intro w nv H3 hnv hw hD3 f3 hv3
    refine ⟨_, rfl, _, rfl, _, rfl, slA_to (i := i) (by rw [hlm]; omega) hv3 fun x1 H4 e4 hx1 => ?_⟩
    refine ⟨_, rfl, (by show 1 ≤ sizeLine; decide), fun p hp => ?_⟩
    have e5 := ex_new (o := .tup [w]) hp
    have hw5 : Dp K (upd H4 p (.tup [w])) (.ref p) (.tuple [vD nv]) := .tup (SqT.of upd_same) (.cons (dp_ex (ex_trans e4 e5) hw) .nil)
    refine catA_go (dp_ex e5 hx1) hw5 (by rw [List.length_take, hlm]; show min i vs.length + 1 ≤ 1000; omega) fun x2 H6 e6 hx2 => ?_
    refine ⟨_, rfl, _, rfl, _, _, rfl, rfl, _, rfl, ?_⟩
    dsimp only [tNoPart]
    refine slA_from (i := i + 1) (by omega) (by rw [hlm]; omega) (dp_ex (ex_trans e4 (ex_trans e5 e6)) hv3) fun x3 H7 e7 hx3 => ?_
    refine catA_go (dp_ex e7 hx2) hx3 (by rw [List.length_append, List.length_take, List.length_drop, hlm]; show min i vs.length + 1 + _ ≤ 1000; omega) fun x4 H8 e8 hx4 => ?_
    have e48 := ex_trans e4 (ex_trans e5 (ex_trans e6 (ex_trans e7 e8)))
    have hx4 : Dp K H8 x4 (vsD (vs.take i ++ [nv] ++ vs.drop (i + 1))) := by
      show Dp K H8 x4 (.tuple ((vs.take i ++ [nv] ++ vs.drop (i + 1)).map vD))
      rw [List.map_append, List.map_append, List.map_take, List.map_drop]
      exact hx4
    refine ⟨_, rfl, near_ret hx4 fun u H9 e9 hu => k u _ left H9 (rhOk_set ok hi hnv) hu (dst_ex (ex_trans e48 e9) hD3) (fx_trans f3 (fx_ex (ex_trans e48 e9)))⟩
  have f02 : Fx d H H2 := fx_trans f1 f2
  refine ⟨_, rfl, rfl, _, rfl, ?_⟩
  rw [d_int]
  by_cases c3 : x = 3
  · rw [decide_eq_true c3]
    refine iteT ⟨_, rfl, _, rfl, ?_⟩
    unfold sp_law_below
    refine ⟨d, 6, rfl, hD2, by decide, by decide, fun z H3 z0 z1 hD3 f3 => ⟨_, _, rfl, rfl, (by show 2 ≤ sizeLine; decide), fun p hp => ?_⟩⟩
    have e4 := ex_new (o := .tup [.str (wayS ve.1), .int (1 + z)]) hp
    exact fin (.ref p) (ve.1, 1 + z) _ ⟨by show 1 ≤ 1 + z; omega, by show 1 + z ≤ 6; omega⟩ (.tup (SqT.of upd_same) (.cons (.str _) (.cons (.int _) .nil))) (dst_ex e4 hD3) (fx_trans f02 (fx_trans f3 (fx_ex e4))) (dp_ex e4 (dp_fxN (dst_noT hD2) f3 (vsD_flat vs) hv2))
  · rw [decide_eq_false c3]
    refine iteF ⟨_, rfl, _, rfl, (by show 2 ≤ sizeLine; decide), fun p1 hp1 => ?_⟩
    have e4 := ex_new (o := .tup [.str "on", .int ve.2]) hp1
    refine ⟨_, rfl, (by show 2 ≤ sizeLine; decide), fun p2 hp2 => ?_⟩
    have e5 := ex_new (o := .tup [.str "back", .int ve.2]) hp2
    refine ⟨(by show 2 ≤ sizeLine; decide), fun l hl => ?_⟩
    have e6 := ex_new (o := .lst [.ref p1, .ref p2]) hl
    have e46 := ex_trans e4 (ex_trans e5 e6)
    refine pick_go (ds := [vD (true, ve.2), vD (false, ve.2)]) (dst_ex e46 hD2) upd_same (dst_ne (dst_ex (ex_trans e4 e5) hD2) hl)
      (.cons (.tup (SqT.of (e6 _ _ (e5 _ _ upd_same))) (.cons (.str _) (.cons (.int _) .nil))) (.cons (.tup (SqT.of (e6 _ _ upd_same)) (.cons (.str _) (.cons (.int _) .nil))) .nil)) rfl (by simp) (by show 2 ≤ 1000; decide) fun w e H3 he hw hD3 f3 => ?_
    have hnv : ∃ nv : Ve, e = vD nv ∧ 1 ≤ nv.2 ∧ nv.2 ≤ 6 := by
      simp only [List.mem_cons, List.not_mem_nil, or_false] at he
      rcases he with rfl | rfl
      · exact ⟨_, rfl, hvc⟩
      · exact ⟨_, rfl, hvc⟩
    obtain ⟨nv, rfl, hn⟩ := hnv
    exact fin w nv H3 hn hw hD3 (fx_trans f02 (fx_trans (fx_ex e46) f3)) (dp_fxN (dst_noT (dst_ex e46 hD2)) f3 (vsD_flat vs) (dp_ex e46 hv2))

end Z
/-! Children on a great ring: those who went are passed over. Mirrored, turned, doubled rhymes. Plain Lean. -/
namespace Rh
/-- the one with c of its kind ahead of it -/
theorem pick_at {α : Type} (p : α → Bool) : ∀ (L : List α) (c : Nat), c < (L.filter p).length → ∃ (X : Nat) (x : α), L[X]? = some x ∧ p x = true ∧ ((L.take X).filter p).length = c ∧ L.filter p = (L.take X).filter p ++ x :: (L.drop (X + 1)).filter p
  | [], c, h => absurd h (Nat.not_lt_zero _)
  | y :: L, c, h => by
    by_cases hy : p y = true
    · rw [List.filter_cons_of_pos hy] at h
      cases c with
      | zero => exact ⟨0, y, rfl, hy, rfl, by rw [List.filter_cons_of_pos hy]; rfl⟩
      | succ c =>
        obtain ⟨X, x, h1, h2, h3, h4⟩ := pick_at p L c (by rw [List.length_cons] at h; omega)
        refine ⟨X + 1, x, h1, h2, ?_, ?_⟩
        · rw [List.take_succ_cons, List.filter_cons_of_pos hy, List.length_cons, h3]
        · rw [List.take_succ_cons, List.filter_cons_of_pos hy, List.filter_cons_of_pos hy, List.drop_succ_cons, List.cons_append, ← h4]
    · rw [List.filter_cons_of_neg hy] at h
      obtain ⟨X, x, h1, h2, h3, h4⟩ := pick_at p L c h
      refine ⟨X + 1, x, h1, h2, ?_, ?_⟩
      · rw [List.take_succ_cons, List.filter_cons_of_neg hy, h3]
      · rw [List.take_succ_cons, List.filter_cons_of_neg hy, List.filter_cons_of_neg hy, List.drop_succ_cons, ← h4]
/-- the ring of n on from a place -/
def ring (n : Nat) (at' : Int) : List Int := (List.range n).map fun (i : Nat) => (at' + (i : Int)) % (n : Int)
theorem ring_len (n : Nat) (a : Int) : (ring n a).length = n := by unfold ring; rw [List.length_map, List.length_range]
theorem ring_get {n i : Nat} (a : Int) (h : i < n) : (ring n a)[i]? = some ((a + (i : Int)) % (n : Int)) := by
  unfold ring
  rw [List.getElem?_map, List.getElem?_range h] <;> rfl
theorem ring_nodup (n : Nat) (a : Int) : (ring n a).Nodup := by
  unfold ring
  refine List.pairwise_map.mpr ?_
  refine List.Pairwise.imp_of_mem ?_ List.nodup_range
  intro i j hi hj hne e
  have hi := List.mem_range.mp hi
  have hj := List.mem_range.mp hj
  apply hne
  have e2 : ((i : Int) + a) % (n : Int) = ((j : Int) + a) % (n : Int) := by rw [Int.add_comm _ a, Int.add_comm _ a]; exact e
  have := emod_inj (a := (i : Int)) (b := (j : Int)) (by omega) (by omega) (by omega) (by omega) e2
  omega
/-- the ring from further on -/
theorem ring_on (n : Nat) (a : Int) (k : Nat) (h : k ≤ n) : ring n (a + (k : Int)) = (ring n a).drop k ++ (ring n a).take k := by
  refine List.ext_getElem? fun i => ?_
  by_cases hi : i < n
  · rw [ring_get _ hi]
    by_cases c : i < n - k
    · rw [List.getElem?_append_left (by rw [List.length_drop, ring_len]; exact c), List.getElem?_drop, ring_get a (by omega)]
      have : a + (k : Int) + (i : Int) = a + ((k + i : Nat) : Int) := by omega
      rw [this]
    · rw [List.getElem?_append_right (by rw [List.length_drop, ring_len]; omega), List.length_drop, ring_len, List.getElem?_take, if_pos (by omega), ring_get a (by omega)]
      have : a + (k : Int) + (i : Int) = a + ((i - (n - k) : Nat) : Int) + (n : Int) := by omega
      rw [this, Int.add_emod_right]
  · rw [List.getElem?_eq_none (by rw [ring_len]; omega), List.getElem?_eq_none (by rw [List.length_append, List.length_drop, List.length_take, ring_len]; omega)]
/-- those of a ring who did not go -/
def left' (n : Nat) (a : Int) (f : List Int) : List Int := (ring n a).filter fun x => !f.contains x
/-- c more are passed over, on -/
theorem pass_on {n : Nat} {a : Int} {f : List Int} {c : Nat} (h : c < (left' n a f).length) : ∃ X : Nat, X < n ∧ f.contains ((a + (X : Int)) % (n : Int)) = false ∧
    (((ring n a).take X).filter fun x => !f.contains x).length = c ∧ (left' n a f).getD c 0 = (a + (X : Int)) % (n : Int) ∧
    left' n (a + (X : Int) + 1) (f ++ [(a + (X : Int)) % (n : Int)]) = cut (left' n a f) c := by
  obtain ⟨X, x, h1, h2, h3, h4⟩ := pick_at (fun x => !f.contains x) (ring n a) c h
  have hX : X < n := by
    have := (List.getElem?_eq_some_iff.mp h1).1
    rw [ring_len] at this
    exact this
  have hx : x = (a + (X : Int)) % (n : Int) := by
    rw [ring_get a hX] at h1
    injection h1 with h1
    exact h1.symm
  have hno : f.contains x = false := by simpa using h2
  refine ⟨X, hX, by rw [← hx]; exact hno, h3, ?_, ?_⟩
  · unfold left'
    rw [h4, List.getD_eq_getElem?_getD, List.getElem?_append_right (by omega), h3, Nat.sub_self, ← hx]
    rfl
  · have hsplit : ring n a = (ring n a).take X ++ x :: (ring n a).drop (X + 1) := by
      conv => lhs; rw [← List.take_append_drop X (ring n a)]
      rw [List.drop_eq_getElem_cons (by rw [ring_len]; exact hX)]
      have : (ring n a)[X]'(by rw [ring_len]; exact hX) = x := (List.getElem?_eq_some_iff.mp h1).2
      rw [this]
    have nd := ring_nodup n a
    rw [hsplit] at nd
    obtain ⟨_, nd2, nd3⟩ := List.nodup_append.mp nd
    have n1 : ∀ y ∈ (ring n a).take X, y ≠ x := fun y hy => nd3 y hy x List.mem_cons_self
    have n2 : ∀ y ∈ (ring n a).drop (X + 1), y ≠ x := fun y hy e => (List.nodup_cons.mp nd2).1 (e ▸ hy)
    have e1 : a + (X : Int) + 1 = a + ((X + 1 : Nat) : Int) := by omega
    have ex : x = (a + (X : Int)) % (n : Int) := hx
    rw [e1, ← ex]
    unfold left'
    rw [ring_on n a (X + 1) (by omega), List.filter_append]
    have f1 : ∀ l : List Int, (∀ y ∈ l, y ≠ x) → (l.filter fun y => !(f ++ [x]).contains y) = l.filter fun y => !f.contains y := fun l hl => by
      refine List.filter_congr fun y hy => ?_
      have := hl y hy
      simp [List.contains_eq_mem, this]
    have t1 : (ring n a).take (X + 1) = (ring n a).take X ++ [x] := by
      rw [List.take_add_one, h1]
      rfl
    rw [t1, List.filter_append, f1 _ n1, f1 _ n2]
    have t2 : ([x].filter fun y => !(f ++ [x]).contains y) = [] := by simp
    rw [t2, List.append_nil, h4]
    unfold cut
    rw [← h3]
    congr 1
    · rw [List.drop_append, List.drop_eq_nil_of_le (Nat.le_succ _), List.nil_append, Nat.add_sub_cancel_left]
      rfl
    · rw [List.take_left]
/-! ### counted step by step -/
/-- how many of the first i places were not passed over for being gone -/
def passed (n : Nat) (f : List Int) (g : Nat → Int) : Nat → Nat
  | 0 => 0
  | i + 1 => passed n f g i + (if f.contains (g i % (n : Int)) then 0 else 1)
theorem passed_succ (n : Nat) (f : List Int) (g : Nat → Int) (i : Nat) : passed n f g (i + 1) = passed n f g i + (if f.contains (g i % (n : Int)) then 0 else 1) := rfl
theorem passed_mono (n : Nat) (f : List Int) (g : Nat → Int) : ∀ (j i : Nat), i ≤ j → passed n f g i ≤ passed n f g j
  | 0, i, h => by
    have : i = 0 := by omega
    subst this
    exact Nat.le_refl _
  | j + 1, i, h => by
    by_cases c : i = j + 1
    · subst c
      exact Nat.le_refl _
    · have := passed_mono n f g j i (by omega)
      rw [passed_succ]
      omega
theorem passed_on (n : Nat) (f : List Int) (a : Int) : ∀ i : Nat, i ≤ n → passed n f (fun j => a + (j : Int)) i = (((ring n a).take i).filter fun x => !f.contains x).length
  | 0, _ => by rw [List.take_zero]; rfl
  | i + 1, h => by
    have e : (ring n a).take (i + 1) = (ring n a).take i ++ [(a + (i : Int)) % (n : Int)] := by
      rw [List.take_add_one, ring_get a (by omega)]
      rfl
    rw [passed_succ, passed_on n f a i (by omega), e, List.filter_append, List.length_append]
    congr 1
    show (if f.contains ((a + (i : Int)) % (n : Int)) = true then 0 else 1) = _
    cases hc : f.contains ((a + (i : Int)) % (n : Int)) with
    | true => rw [if_pos rfl, List.filter_cons_of_neg (by rw [hc]; decide)]; rfl
    | false => rw [if_neg (by decide), List.filter_cons_of_pos (by rw [hc]; decide)]; rfl
theorem passed_back (n : Nat) (f : List Int) (a : Int) : ∀ k : Nat, k ≤ n → passed n f (fun j => a - 1 - (j : Int)) k + passed n f (fun j => a + (j : Int)) (n - k) = passed n f (fun j => a + (j : Int)) n
  | 0, _ => by show 0 + _ = _; rw [Nat.zero_add, Nat.sub_zero]
  | k + 1, h => by
    have ih := passed_back n f a k (by omega)
    have e : n - k = (n - (k + 1)) + 1 := by omega
    rw [e, passed_succ] at ih
    have e2 : (a + ((n - (k + 1) : Nat) : Int)) % (n : Int) = (a - 1 - (k : Int)) % (n : Int) := by
      have : a + ((n - (k + 1) : Nat) : Int) = a - 1 - (k : Int) + (n : Int) := by omega
      rw [this, Int.add_emod_right]
    rw [passed_succ]
    show passed n f (fun j => a - 1 - (j : Int)) k + (if f.contains ((a - 1 - (k : Int)) % (n : Int)) then 0 else 1) + _ = _
    simp only [e2] at ih
    omega
/-- one verse on: the steps until it ends -/
theorem turn_on {n : Nat} {a : Int} {f : List Int} {c : Nat} (h : c < (left' n a f).length) : ∃ X : Nat, f.contains ((a + (X : Int)) % (n : Int)) = false ∧ passed n f (fun j => a + (j : Int)) X = c ∧
    (left' n a f).getD c 0 = (a + (X : Int)) % (n : Int) ∧ left' n (a + (X : Int) + 1) (f ++ [(a + (X : Int)) % (n : Int)]) = cut (left' n a f) c := by
  obtain ⟨X, hX, h1, h2, h3, h4⟩ := pass_on h
  exact ⟨X, h1, by rw [passed_on n f a X (by omega)]; exact h2, h3, h4⟩
theorem left_skip {n : Nat} {a : Int} {f : List Int} (hn : 0 < n) (h : f.contains (a % (n : Int)) = true) : left' n (a + 1) f = left' n a f := by
  unfold left'
  have e : a + 1 = a + ((1 : Nat) : Int) := rfl
  rw [e, ring_on n a 1 hn, List.filter_append]
  have h1 : (ring n a).take 1 = [a % (n : Int)] := by
    rw [List.take_add_one, ring_get a hn]
    show [] ++ [(a + 0) % (n : Int)] = _
    rw [Int.add_zero]
    rfl
  have h2 : ring n a = (ring n a).take 1 ++ (ring n a).drop 1 := (List.take_append_drop 1 _).symm
  conv => rhs; rw [h2]
  rw [List.filter_append, h1, List.filter_cons_of_neg (by rw [h]; decide)]
  simp
theorem left_round (n : Nat) (a : Int) (f : List Int) : left' n (a - (n : Int)) f = left' n a f := by
  unfold left' ring
  congr 1
  refine List.map_congr_left fun i _ => ?_
  have : a - (n : Int) + (i : Int) = a + (i : Int) - (n : Int) := by omega
  rw [this, Int.sub_emod_right]
/-- one verse back -/
theorem turn_back {n : Nat} {a : Int} {f : List Int} {c : Nat} (h : c < (left' n a f).length) : ∃ X : Nat, f.contains ((a - 1 - (X : Int)) % (n : Int)) = false ∧ passed n f (fun j => a - 1 - (j : Int)) X = c ∧
    (left' n a f).getD ((left' n a f).length - 1 - c) 0 = (a - 1 - (X : Int)) % (n : Int) ∧ left' n (a - 1 - (X : Int)) (f ++ [(a - 1 - (X : Int)) % (n : Int)]) = cut (left' n a f) ((left' n a f).length - 1 - c) := by
  have hs : (left' n a f).length = passed n f (fun j => a + (j : Int)) n := by
    rw [passed_on n f a n (Nat.le_refl _), List.take_of_length_le (Nat.le_of_eq (ring_len n a))]
    rfl
  obtain ⟨Y, hY, h1, h2, h3, h4⟩ := pass_on (n := n) (a := a) (f := f) (c := (left' n a f).length - 1 - c) (by omega)
  rw [← passed_on n f a Y (by omega)] at h2
  have e : a - 1 - ((n - 1 - Y : Nat) : Int) = a + (Y : Int) - (n : Int) := by omega
  have em : (a - 1 - ((n - 1 - Y : Nat) : Int)) % (n : Int) = (a + (Y : Int)) % (n : Int) := by rw [e, Int.sub_emod_right]
  have hb := passed_back n f a (n - 1 - Y) (by omega)
  have e3 : n - (n - 1 - Y) = Y + 1 := by omega
  rw [e3, passed_succ, h2] at hb
  have h1' : (if f.contains ((fun j : Nat => a + (j : Int)) Y % (n : Int)) = true then 0 else 1) = 1 := by
    show (if f.contains ((a + (Y : Int)) % (n : Int)) = true then 0 else 1) = 1
    rw [h1, if_neg (by decide)]
  rw [h1'] at hb
  refine ⟨n - 1 - Y, by rw [em]; exact h1, by omega, by rw [em]; exact h3, ?_⟩
  rw [em, e, left_round, ← h4]
  refine (left_skip (by omega) ?_).symm
  simp
theorem left_start (n : Nat) : left' n 0 [] = (List.range n).map fun (i : Nat) => (i : Int) := by
  unfold left' ring
  rw [show (List.map (fun (i : Nat) => ((0 : Int) + (i : Int)) % (n : Int)) (List.range n)).filter (fun x => !([] : List Int).contains x) = List.map (fun (i : Nat) => ((0 : Int) + (i : Int)) % (n : Int)) (List.range n) from List.filter_eq_self.mpr (fun _ _ => rfl)]
  refine List.map_congr_left fun i hi => ?_
  have := List.mem_range.mp hi
  rw [Int.zero_add]
  exact Int.emod_eq_of_lt (by omega) (by omega)

/-! ### a rhyme turned -/
/-- the last rise first -/
def rot (R : List Int) : List Int := R.drop (R.length - 1) ++ R.take (R.length - 1)
theorem rot_len (R : List Int) : (rot R).length = R.length := by
  unfold rot
  rw [List.length_append, List.length_drop, List.length_take]
  omega
theorem rI_rot (R : List Int) (h : 0 < R.length) (i : Int) : rI (rot R) i = rI R (i - 1) := by
  unfold rI
  rw [rot_len]
  have h1 := Int.emod_nonneg i (show (R.length : Int) ≠ 0 by omega)
  have h2 := Int.emod_lt_of_pos i (show (0 : Int) < (R.length : Int) by omega)
  by_cases c : i % (R.length : Int) = 0
  · have e : (i - 1) % (R.length : Int) = (R.length : Int) - 1 := by
      rw [Int.sub_emod, c]
      by_cases c1 : R.length = 1
      · rw [c1]; rfl
      · rw [Int.emod_eq_of_lt (a := 1) (by omega) (by omega)]
        have : (0 : Int) - 1 = -1 + (R.length : Int) - (R.length : Int) := by omega
        rw [this, Int.sub_emod_right]
        rw [Int.emod_eq_of_lt (by omega) (by omega)]
        omega
    rw [c, e]
    have e2 : ((R.length : Int) - 1).toNat = R.length - 1 := by omega
    rw [e2]
    unfold rot
    rw [List.getD_eq_getElem?_getD, List.getD_eq_getElem?_getD]
    show ((_ ++ _)[0]?).getD 0 = _
    rw [List.getElem?_append_left (by rw [List.length_drop]; omega), List.getElem?_drop, Nat.add_zero]
  · have e : (i - 1) % (R.length : Int) = i % (R.length : Int) - 1 := by
      have : i - 1 = (i % (R.length : Int) - 1) + (R.length : Int) * (i / (R.length : Int)) := by
        have := Int.emod_add_mul_ediv i (R.length : Int)
        omega
      rw [this, Int.add_mul_emod_self_left]
      exact Int.emod_eq_of_lt (by omega) (by omega)
    rw [e]
    obtain ⟨k, hk⟩ : ∃ k : Nat, i % (R.length : Int) = (k : Int) + 1 := ⟨(i % (R.length : Int) - 1).toNat, by omega⟩
    rw [hk]
    have e1 : ((k : Int) + 1).toNat = k + 1 := by omega
    have e2 : ((k : Int) + 1 - 1).toNat = k := by omega
    rw [e1, e2]
    unfold rot
    rw [List.getD_eq_getElem?_getD, List.getD_eq_getElem?_getD, List.getElem?_append_right (by rw [List.length_drop]; omega), List.length_drop, List.getElem?_take, if_pos (by omega)]
    have : k + 1 - (R.length - (R.length - 1)) = k := by omega
    rw [this]
theorem lift_rot (R : List Int) (h : 0 < R.length) (n : Int) : ∀ (k : Nat) (s p : Int), lift (rot R) (n + 1) k s p = lift R n k s p
  | 0, _, _ => rfl
  | k + 1, s, p => by
    rw [lift_succ, lift_succ, lift_rot R h n k, rI_rot R h]
    have : n + 1 - s - 1 - 1 = n - s - 1 := by omega
    rw [this]
/-- one child more, the rhyme turned: a step by the last rise -/
theorem lift_turned (R : List Int) (h : 0 < R.length) (n s p : Int) (k : Nat) (hk : s + (k : Int) = n) : lift (rot R) (n + 1) (k + 1) s p = (lift R n k s p + rI R (-1)) % (n + 1) := by
  rw [lift_snoc, lift_rot R h, hk, rI_rot R h]
  have : n + 1 - n - 1 - 1 = -1 := by omega
  rw [this]

/-! ### a rhyme the other way round -/
def mirr (R : List Int) : List Int := R.map fun r => 1 - r
theorem mirr_len (R : List Int) : (mirr R).length = R.length := by unfold mirr; rw [List.length_map]
theorem rI_mirr (R : List Int) (h : 0 < R.length) (i : Int) : rI (mirr R) i = 1 - rI R i := by
  unfold rI
  rw [mirr_len]
  have h1 := Int.emod_nonneg i (show (R.length : Int) ≠ 0 by omega)
  have h2 := Int.emod_lt_of_pos i (show (0 : Int) < (R.length : Int) by omega)
  have hl : (i % (R.length : Int)).toNat < R.length := by omega
  unfold mirr
  rw [List.getD_eq_getElem?_getD, List.getD_eq_getElem?_getD, List.getElem?_map, List.getElem?_eq_getElem hl]
  rfl
theorem mirr_step (s p r : Int) (hs : 0 ≤ s) : (s - 1 - p + (1 - r)) % (s + 1) = s - (p + r) % (s + 1) := by
  have h1 := Int.emod_nonneg (p + r) (show s + 1 ≠ 0 by omega)
  have h2 := Int.emod_lt_of_pos (p + r) (show (0 : Int) < s + 1 by omega)
  have h3 := Int.emod_add_mul_ediv (p + r) (s + 1)
  have e : s - 1 - p + (1 - r) = (s - (p + r) % (s + 1)) + (s + 1) * (-((p + r) / (s + 1))) := by
    rw [Int.mul_neg]
    omega
  rw [e, Int.add_mul_emod_self_left]
  exact Int.emod_eq_of_lt (by omega) (by omega)
theorem lift_mirr (R : List Int) (h : 0 < R.length) (n : Int) : ∀ (k : Nat) (s p : Int), 0 ≤ s → lift (mirr R) n k s (s - 1 - p) = s + (k : Int) - 1 - lift R n k s p
  | 0, s, p, _ => by
    rw [lift_zero, lift_zero]
    omega
  | k + 1, s, p, hs => by
    rw [lift_succ, lift_succ, rI_mirr R h, mirr_step s p _ hs]
    have e : s - (p + rI R (n - s - 1)) % (s + 1) = s + 1 - 1 - (p + rI R (n - s - 1)) % (s + 1) := by omega
    rw [e, lift_mirr R h n k (s + 1) _ (by omega)]
    omega

/-! ### a rhyme told twice over -/
theorem rI_twice (R : List Int) (h : 0 < R.length) (i : Int) : rI (R ++ R) i = rI R i := by
  unfold rI
  have hl : (((R ++ R).length : Nat) : Int) = (R.length : Int) * 2 := by
    rw [List.length_append]
    omega
  rw [hl]
  have h1 := Int.emod_nonneg i (show (R.length : Int) * 2 ≠ 0 by omega)
  have h2 := Int.emod_lt_of_pos i (show (0 : Int) < (R.length : Int) * 2 by omega)
  have e : i % (R.length : Int) = (i % ((R.length : Int) * 2)) % (R.length : Int) := (Int.emod_emod_of_dvd i ⟨2, rfl⟩).symm
  rw [e, List.getD_eq_getElem?_getD, List.getD_eq_getElem?_getD]
  by_cases c : i % ((R.length : Int) * 2) < (R.length : Int)
  · rw [Int.emod_eq_of_lt h1 c, List.getElem?_append_left (by omega)]
  · have e2 : i % ((R.length : Int) * 2) % (R.length : Int) = i % ((R.length : Int) * 2) - (R.length : Int) := by
      rw [← Int.sub_emod_right]
      exact Int.emod_eq_of_lt (by omega) (by omega)
    rw [e2, List.getElem?_append_right (by omega)]
    have : (i % ((R.length : Int) * 2)).toNat - R.length = (i % ((R.length : Int) * 2) - (R.length : Int)).toNat := by omega
    rw [this]
theorem lift_twice (R : List Int) (h : 0 < R.length) (n : Int) : ∀ (k : Nat) (s p : Int), lift (R ++ R) n k s p = lift R n k s p
  | 0, _, _ => rfl
  | k + 1, s, p => by rw [lift_succ, lift_succ, rI_twice R h, lift_twice R h n k]
end Rh
namespace Z
open PySem PySem.Spec PyProof.Rows L2
local macro_rules | `(tactic| walk_at "look") => `(tactic| first | assumption | exact upd_same | exact SqL.of (by assumption) | exact SqT.of (by assumption) | exact SqL.of upd_same | exact SqT.of upd_same)
local macro_rules | `(tactic| walk_at "at") => `(tactic| first | exact at0 | exact at1 | exact at2 | exact at3 | exact ix0 | exact ix1 | assumption | exact atI_nat (by rfl))
local macro_rules | `(tactic| walk_at "sd") => `(tactic| ((try dsimp only); first | assumption | omega | (unfold CMul; omega) | (unfold CDiv; omega) | (unfold CPow; decide) | decide))
local macro_rules | `(tactic| walk_at "st") => `(tactic| first
  | (refine ⟨_, rfl, ?_⟩)
  | (refine ⟨_, _, rfl, rfl, ?_⟩)
  | (refine ⟨rfl, ?_⟩)
  | (refine .inl ⟨_, rfl, ?_⟩)
  | (refine ⟨_, _, _, _, rfl, rfl, (by walk_at "look"), (by walk_at "at"), ?_⟩)
  | (refine ⟨_, _, rfl, .inl (by walk_at "look"), ?_⟩)
  | (refine And.intro (by walk_at "sd") ?_)
  | fail "no step")
local macro_rules | `(tactic| walk_at "go") => `(tactic| repeat' (walk_at "st"))
local macro_rules | `(tactic| walk_at "ans") => `(tactic| (intro Q q; (repeat' (walk_at "st")); exact q))

/-! ### a number between two -/
@[irreducible] def sp_law_spot (K : PySem.W.Frag) : Sp := fun ws H Q _ => ∃ (d : Addr) (lo hi : Int), ws = [.ref d, .int lo, .int hi] ∧ DSt H d ∧ lo ≤ hi ∧ hi - lo + 1 < 2 ^ 200 ∧
  ∀ (n : Int) (H' : Hp), lo ≤ n → n ≤ hi → DSt H' d → Fx d H H' → Q (.int n) H'
def t_law_spot_1a_0 (K : PySem.W.Frag) (E : XK) : TS := (tRet (tCB (rMin K) (tCons (tLst (tCons (tVar 2) (tCons (tOp oAdd (tVar 1) (tCall (sp_law_below K) [] E0 (tCons (tVar 0) (tCons (tC (.int 30)) tNil)))) tNil))) tNil)))

def t_law_spot_2a_0 (K : PySem.W.Frag) (E : XK) : TS := (tRet (tCB (rMax K) (tCons (tLst (tCons (tVar 1) (tCons (tOp oSub (tVar 2) (tCall (sp_law_below K) [] E0 (tCons (tVar 0) (tCons (tC (.int 30)) tNil)))) tNil))) tNil)))

def t_law_spot_3 (K : PySem.W.Frag) (E : XK) : TS := (tRet (tOp oAdd (tVar 1) (tCall (sp_law_below K) [] E0 (tCons (tVar 0) (tCons (tOp oAdd (tOp oSub (tVar 2) (tVar 1)) (tC (.int 1))) tNil)))))

@[irreducible] def t_law_spot_2 (K : PySem.W.Frag) (E : XK) : TS := tSeq (tIfS (tTest (tOp rEq (tVar 3) (tC (.int 1))))
    (t_law_spot_2a_0 K E) tNext) (t_law_spot_3 K E)

@[irreducible] def t_law_spot_1 (K : PySem.W.Frag) (E : XK) : TS := tSeq (tIfS (tTest (tOp rEq (tVar 3) (tC (.int 0))))
    (t_law_spot_1a_0 K E) tNext) (t_law_spot_2 K E)

def t_law_spot_0 (K : PySem.W.Frag) (E : XK) : TS := tSeq (tAsg (tCall (sp_law_below K) [] E0 (tCons (tVar 0) (tCons (tC (.int 4)) tNil))) (gName 3)) (t_law_spot_1 K E)

theorem pure_law_spot {K : PySem.W.Frag} (ws : List V) (H : Hp) (Q : VK) (E : XK) (h : sp_law_spot K ws H Q E) : t_law_spot_0 K E { nx := fun _ H' => Q .non H', rt := Q } (start ["_law_d", "_law_least", "_law_most", "_law_pick_here"] ws) H := by
  unfold sp_law_spot at h
  obtain ⟨d, lo, hi, rfl, hD, h1, h2, k⟩ := h
  show t_law_spot_0 K E _ [some (.ref d), some (.int lo), some (.int hi), none] H
  refine ⟨_, rfl, ?_⟩
  unfold sp_law_below
  refine ⟨d, 4, rfl, hD, by decide, by decide, fun r H1 r0 r1 hD1 f1 => ?_⟩
  show t_law_spot_1 K E _ [some (.ref d), some (.int lo), some (.int hi), some (.int r)] H1
  unfold t_law_spot_1
  refine ⟨_, rfl, rfl, _, rfl, ?_⟩
  rw [d_int]
  by_cases c0 : r = 0
  · refine iteT' (decide_eq_true c0) ?_
    refine ⟨_, rfl, _, rfl, _, rfl, ?_⟩
    unfold sp_law_below
    refine ⟨d, 30, rfl, hD1, by decide, by decide, fun r2 H2 s0 s1 hD2 f2 => ⟨_, _, rfl, rfl, (by show 2 ≤ sizeLine; decide), fun p hp => ?_⟩⟩
    refine ⟨p, [hi, lo + r2], rfl, SqL.of upd_same, (by show 0 < 2; decide), fun m hm hle => ?_⟩
    have a1 := hle hi List.mem_cons_self
    have a2 : lo ≤ m := by
      rcases List.mem_cons.mp hm with e | e
      · omega
      · have := List.mem_singleton.mp e
        omega
    exact k m _ a2 a1 (dst_ex (ex_new hp) hD2) (fx_trans f1 (fx_trans f2 (fx_ex (ex_new hp))))
  refine iteF' (decide_eq_false c0) ?_
  show t_law_spot_2 K E _ [some (.ref d), some (.int lo), some (.int hi), some (.int r)] H1
  unfold t_law_spot_2
  refine ⟨_, rfl, rfl, _, rfl, ?_⟩
  rw [d_int]
  by_cases c1 : r = 1
  · refine iteT' (decide_eq_true c1) ?_
    refine ⟨_, rfl, _, rfl, _, rfl, ?_⟩
    unfold sp_law_below
    refine ⟨d, 30, rfl, hD1, by decide, by decide, fun r2 H2 s0 s1 hD2 f2 => ⟨_, _, rfl, rfl, (by show 2 ≤ sizeLine; decide), fun p hp => ?_⟩⟩
    refine ⟨p, [lo, hi - r2], rfl, SqL.of upd_same, (by show 0 < 2; decide), fun m hm hle => ?_⟩
    have a1 := hle lo List.mem_cons_self
    have a2 : m ≤ hi := by
      rcases List.mem_cons.mp hm with e | e
      · omega
      · have := List.mem_singleton.mp e
        omega
    exact k m _ a1 a2 (dst_ex (ex_new hp) hD2) (fx_trans f1 (fx_trans f2 (fx_ex (ex_new hp))))
  refine iteF' (decide_eq_false c1) ?_
  show t_law_spot_3 K E _ [some (.ref d), some (.int lo), some (.int hi), some (.int r)] H1
  refine ⟨_, rfl, _, rfl, _, rfl, _, rfl, _, _, rfl, rfl, _, _, rfl, rfl, ?_⟩
  unfold sp_law_below
  refine ⟨d, hi - lo + 1, rfl, hD1, by omega, h2, fun r2 H2 s0 s1 hD2 f2 => ⟨_, _, rfl, rfl, ?_⟩⟩
  exact k _ _ (by omega) (by omega) hD2 (fx_trans f1 f2)

/-! ### the rises of a drawn rhyme -/
@[irreducible] def sp_law_rises (K : PySem.W.Frag) : Sp := fun ws H Q _ => ∃ (t : V) (vs : List Ve) (left : Int), ws = [t] ∧ Dp K H t (tD vs left) ∧ RhOk vs left ∧
  ∀ (p : Addr) (H' : Hp), H p = none → Ex H H' → H' p = some (.lst ((rises vs).map V.int)) → Q (.ref p) H'
def t_law_rises_0 (K : PySem.W.Frag) (E : XK) : TS := (tRet (tLc (iTup K (tOp (rIxT K) (tVar 0) (tC (.int 0)))) (gTup K 2 (gCons (gName 1) (gCons (gName 2) gNil))) tYes (tIf (tTest (tOp rEq (tVar 1) (tC (.str "on")))) (tVar 2) (tOp oSub (tC (.int 1)) (tVar 2))) [1, 2]))

theorem pure_law_rises {K : PySem.W.Frag} (ws : List V) (H : Hp) (Q : VK) (E : XK) (h : sp_law_rises K ws H Q E) : t_law_rises_0 K E { nx := fun _ H' => Q .non H', rt := Q } (start ["_law_t", "_law_way", "_law_count"] ws) H := by
  unfold sp_law_rises at h
  obtain ⟨t, vs, left, rfl, hT, ok, k⟩ := h
  obtain ⟨a, v, rfl, hs, hv⟩ := tD_at hT
  obtain ⟨b, xs, rfl, hb, hall⟩ := dp_tup (id hv)
  have hl : xs.length = vs.length := by
    have := dpa_len hall
    rw [List.length_map] at this
    exact this
  have l4 := ok.l4
  show t_law_rises_0 K E _ [some (.ref a), none, none] H
  refine ⟨_, rfl, a, _, 0, _, rfl, rfl, hs, at0, b, rfl, ⟨xs, hb⟩, fun L hL => lc_map walk_tup (fun i => .int ((rises vs).getD i 0)) hL (Nat.lt_of_le_of_lt (by omega : _ ≤ 4) (by decide)) (fun H3 e => sqt_ex e hb) ?_ ?_⟩
  · rintro i x H3 H4 hi e ⟨rfl, hx⟩ Q Zf q
    obtain ⟨ve, t, hve, rfl, ht⟩ := vs_at hall hx
    refine ⟨t, _, rfl, sqt_ex e ht, rfl, _, _, rfl, _, _, rfl, rfl, rfl, ?_⟩
    refine iteT (B := Zf H4) ?_
    have er : (rises vs).getD i 0 = riseOf ve := by
      unfold rises
      rw [List.getD_eq_getElem?_getD, List.getElem?_map, hve]
      rfl
    rw [er] at q
    refine ⟨_, rfl, rfl, _, rfl, ?_⟩
    rw [d_str]
    have q2 := q H4 (ex_refl H4)
    unfold riseOf at q2
    cases hb : ve.1 with
    | true =>
      rw [hb, if_pos rfl] at q2
      exact iteT ⟨_, rfl, q2⟩
    | false =>
      rw [hb, if_neg Bool.false_ne_true] at q2
      exact iteF ⟨_, rfl, 1, _, rfl, rfl, q2⟩
  · intro H3 e3 hL3
    have e4 : (List.range xs.length).map (fun i => V.int ((rises vs).getD i 0)) = (rises vs).map V.int := by
      refine map_range_get (rises vs) V.int 0 ?_
      unfold rises
      rw [List.length_map]
      exact hl
    rw [e4] at hL3
    exact k L H3 hL e3 hL3

/-! ### the last one first -/
/-- the last verse first -/
def rotV (vs : List Ve) : List Ve := vs.drop (vs.length - 1) ++ vs.take (vs.length - 1)
theorem rotV_ok {vs : List Ve} {left : Int} (ok : RhOk vs left) : RhOk (rotV vs) left := by
  have l1 := ok.l1
  have l4 := ok.l4
  have hl : (rotV vs).length = vs.length := by
    unfold rotV
    rw [List.length_append, List.length_drop, List.length_take]
    omega
  refine ⟨by omega, by omega, fun w hw => ?_, ok.lf⟩
  rcases List.mem_append.mp hw with h | h
  · exact ok.cnt w (List.mem_of_mem_drop h)
  · exact ok.cnt w (List.mem_of_mem_take h)
theorem rotV_rises (vs : List Ve) : rises (rotV vs) = Rh.rot (rises vs) := by
  unfold rotV Rh.rot rises
  rw [List.map_append, List.map_drop, List.map_take, List.length_map]
theorem slA_last {K : PySem.W.Frag} {H : Hp} {x : V} {ds : List PyData} {Q : VK} (hl : 1 ≤ ds.length) (hx : Dp K H x (.tuple ds)) (q : ∀ v H', Ex H H' → Dp K H' v (.tuple (ds.drop (ds.length - 1))) → Q v H') : rSlA K x (some (-1)) none H Q := by
  obtain ⟨a, xs, rfl, ha, da⟩ := dp_tup (id hx)
  have la := dpa_len da
  refine ⟨a, xs, rfl, ha, fun h => ?_, fun _ p hp => ?_⟩
  · have h1 := h.1
    have e1 : HT.sIx xs.length 0 (some (-1)) = (-1 + (xs.length : Int)).toNat := rfl
    rw [e1] at h1
    have e : ds.length - 1 = 0 := by omega
    rw [e, List.drop_zero] at q
    exact q _ H (ex_refl _) hx
  · rw [(cut_neg1 xs (by omega)).1, la]
    exact q _ _ (ex_new hp) (.tup (SqT.of upd_same) (dpa_ex (ex_new hp) (dpa_dropN _ da)))
theorem slA_most {K : PySem.W.Frag} {H : Hp} {x : V} {ds : List PyData} {Q : VK} (hl : 1 ≤ ds.length) (hx : Dp K H x (.tuple ds)) (q : ∀ v H', Ex H H' → Dp K H' v (.tuple (ds.take (ds.length - 1))) → Q v H') : rSlA K x none (some (-1)) H Q := by
  obtain ⟨a, xs, rfl, ha, da⟩ := dp_tup (id hx)
  have la := dpa_len da
  refine ⟨a, xs, rfl, ha, fun h => ?_, fun _ p hp => ?_⟩
  · have h1 := h.2
    have e1 : HT.sIx xs.length xs.length (some (-1)) = (-1 + (xs.length : Int)).toNat := rfl
    rw [e1] at h1
    omega
  · rw [(cut_neg1 xs (by omega)).2, la]
    exact q _ _ (ex_new hp) (.tup (SqT.of upd_same) (dpa_ex (ex_new hp) (dpa_take _ da)))
@[irreducible] def sp_Rhyme_turned (K : PySem.W.Frag) : Sp := fun ws H Q _ => ∃ (a : Addr) (vs : List Ve) (left : Int), ws = [.ref a] ∧ RhAt K H a vs left ∧ RhOk vs left ∧
  ∀ (p : Addr) (H' : Hp), H p = none → Ex H H' → RhAt K H' p (rotV vs) left → Q (.ref p) H'
def t_Rhyme_turned_0 (K : PySem.W.Frag) (E : XK) : TS := (tRet (tMake (He.ga K "Rhyme") (sp_Rhymeu_initu K) [] E0 (tCons (tOp (rCatA K) (tSl (rSlA K) (tFld K (tVar 0) "own_verses") (tPart (tUn oNeg (tC (.int 1)))) tNoPart) (tSl (rSlA K) (tFld K (tVar 0) "own_verses") tNoPart (tPart (tUn oNeg (tC (.int 1)))))) (tCons (tFld K (tVar 0) "own_left") tNil))))

theorem pure_Rhyme_turned {K : PySem.W.Frag} (T : RhC K) (ws : List V) (H : Hp) (Q : VK) (E : XK) (h : sp_Rhyme_turned K ws H Q E) : t_Rhyme_turned_0 K E { nx := fun _ H' => Q .non H', rt := Q } (start ["self"] ws) H := by
  unfold sp_Rhyme_turned at h
  obtain ⟨a, vs, left, rfl, R, ok, k⟩ := h
  obtain ⟨dx, tv, tr, h1, h2, h3⟩ := id R
  have l1 := ok.l1
  have l4 := ok.l4
  show t_Rhyme_turned_0 K E _ [some (.ref a)] H
  refine ⟨_, rfl, a, _, dx, _, _, rfl, h1, T.cl, T.nv, rhF_v _ _ _, 1, rfl, _, rfl, ?_⟩
  dsimp only [tNoPart]
  refine slA_last (by rw [List.length_map]; exact l1) h2 fun y H1 e1 hy => ?_
  rw [List.length_map] at hy
  refine ⟨_, rfl, a, _, dx, _, _, rfl, e1 _ _ h1, T.cl, T.nv, rhF_v _ _ _, ?_⟩
  dsimp only [tNoPart]
  refine ⟨1, rfl, _, rfl, ?_⟩
  refine slA_most (by rw [List.length_map]; exact l1) (dp_ex e1 h2) fun z H2 e2 hz => ?_
  rw [List.length_map] at hz
  refine catA_go (dp_ex e2 hy) hz (by rw [List.length_drop, List.length_take, List.length_map]; omega) fun w H3 e3 hw => ?_
  have e13 := ex_trans e1 (ex_trans e2 e3)
  have hw2 : Dp K H3 w (vsD (rotV vs)) := by
    unfold rotV vsD
    rw [List.map_append, List.map_drop, List.map_take]
    exact hw
  refine ⟨_, rfl, a, _, dx, _, _, rfl, e13 _ _ h1, T.cl, T.nl, rhF_l _ _ _, fun p dp np nd ne => ?_⟩
  have e0 : Ex H3 (upd (upd H3 dp (.own p)) p (.ins (He.ga K "Rhyme") dp [])) := fun b o e => by
    rw [upd_ne (ne_of_none e np), upd_ne (ne_of_none e nd)]
    exact e
  unfold sp_Rhymeu_initu
  exact ⟨p, dp, w, rotV vs, left, rfl, upd_same, dp_ex e0 hw2, rotV_ok ok, fun H' r f => ⟨rfl, k p H' (ex_free e13 np) (ex_trans e13 fun b o e => f b o (e0 b o e) (ne_of_none e np)) r⟩⟩

end Z
namespace Z
open PySem PySem.Spec PyProof.Rows L2
local macro_rules | `(tactic| walk_at "look") => `(tactic| first | assumption | exact upd_same | exact SqL.of (by assumption) | exact SqT.of (by assumption) | exact SqL.of upd_same | exact SqT.of upd_same)
local macro_rules | `(tactic| walk_at "at") => `(tactic| first | exact at0 | exact at1 | exact at2 | exact at3 | exact ix0 | exact ix1 | assumption | exact atI_nat (by rfl))
local macro_rules | `(tactic| walk_at "sd") => `(tactic| ((try dsimp only); first | assumption | omega | (unfold CMul; omega) | (unfold CDiv; omega) | (unfold CPow; decide) | decide))
local macro_rules | `(tactic| walk_at "st") => `(tactic| first
  | (refine ⟨_, rfl, ?_⟩)
  | (refine ⟨_, _, rfl, rfl, ?_⟩)
  | (refine ⟨rfl, ?_⟩)
  | (refine .inl ⟨_, rfl, ?_⟩)
  | (refine ⟨_, _, _, _, rfl, rfl, (by walk_at "look"), (by walk_at "at"), ?_⟩)
  | (refine ⟨_, _, rfl, .inl (by walk_at "look"), ?_⟩)
  | (refine And.intro (by walk_at "sd") ?_)
  | fail "no step")
local macro_rules | `(tactic| walk_at "go") => `(tactic| repeat' (walk_at "st"))
local macro_rules | `(tactic| walk_at "ans") => `(tactic| (intro Q q; (repeat' (walk_at "st")); exact q))

/-! ### the first ones, counted by hand on a great ring -/
@[irreducible] def sp_law_first (K : PySem.W.Frag) : Sp := fun ws H Q _ => ∃ (t : V) (vs : List Ve) (left : Int) (N m : Nat), ws = [t, .int N, .int m] ∧ Dp K H t (tD vs left) ∧ RhOk vs left ∧ 1000 ≤ N ∧ m ≤ 20 ∧
  ∀ (p : Addr) (H' : Hp), H p = none → Ex H H' → H' p = some (.lst ((Rh.st (rises vs) N m).1.map V.int)) → Q (.ref p) H'
def t_law_first_2a_3a_1 (K : PySem.W.Frag) (E : XK) : TS := (tAsg (tIf (tTest (tOp rEq (tVar 6) (tC (.str "on")))) (tOp oAdd (tVar 4) (tC (.int 1))) (tOp oSub (tVar 4) (tC (.int 1)))) (gName 4))

def t_law_first_2a_3a_0 (K : PySem.W.Frag) (E : XK) : TS := tSeq (tAsg (tOp oSub (tVar 8) (tCB cInt (tCons (tOp (rIn K true) (tOp oMod (tVar 4) (tVar 1)) (tVar 3)) tNil))) (gName 8)) (t_law_first_2a_3a_1 K E)

def t_law_first_2a_5 (K : PySem.W.Frag) (E : XK) : TS := (tAsg (tIf (tTest (tOp rEq (tVar 6) (tC (.str "on")))) (tOp oAdd (tVar 4) (tC (.int 1))) (tVar 4)) (gName 4))

def t_law_first_2a_4 (K : PySem.W.Frag) (E : XK) : TS := tSeq (tDrop (tBM K "list" rAppend (tVar 3) (tCons (tOp oMod (tVar 4) (tVar 1)) tNil))) (t_law_first_2a_5 K E)

@[irreducible] def t_law_first_2a_3 (K : PySem.W.Frag) (E : XK) : TS := tSeq (tWhile (tOr (tTest (tOp (rIn K false) (tOp oMod (tVar 4) (tVar 1)) (tVar 3))) (tTest (tOp oGt (tVar 8) (tC (.int 1)))))
    (t_law_first_2a_3a_0 K E)) (t_law_first_2a_4 K E)

def t_law_first_2a_2 (K : PySem.W.Frag) (E : XK) : TS := tSeq (tAsg (tIf (tTest (tOp rEq (tVar 6) (tC (.str "on")))) (tVar 4) (tOp oSub (tVar 4) (tC (.int 1)))) (gName 4)) (t_law_first_2a_3 K E)

def t_law_first_2a_1 (K : PySem.W.Frag) (E : XK) : TS := tSeq (tAsg (tVar 7) (gName 8)) (t_law_first_2a_2 K E)

def t_law_first_2a_0 (K : PySem.W.Frag) (E : XK) : TS := tSeq (tAsg (tOp (rIxT K) (tOp (rIxT K) (tVar 0) (tC (.int 0))) (tOp oMod (tVar 5) (tCB (cLen K) (tCons (tOp (rIxT K) (tVar 0) (tC (.int 0))) tNil)))) (gTup K 2 (gCons (gName 6) (gCons (gName 7) gNil)))) (t_law_first_2a_1 K E)

def t_law_first_3 (K : PySem.W.Frag) (E : XK) : TS := (tRet (tVar 3))

@[irreducible] def t_law_first_2 (K : PySem.W.Frag) (E : XK) : TS := tSeq (tFor (iRng1 (tCons (tVar 2) tNil)) (gName 5)
    (t_law_first_2a_0 K E)) (t_law_first_3 K E)

def t_law_first_1 (K : PySem.W.Frag) (E : XK) : TS := tSeq (tAsg (tC (.int 0)) (gName 4)) (t_law_first_2 K E)

def t_law_first_0 (K : PySem.W.Frag) (E : XK) : TS := tSeq (tAsg (tLst tNil) (gName 3)) (t_law_first_1 K E)

/-- where the j-th step stands: on, back -/
def stepP (b : Bool) (a : Int) (j : Nat) : Int := if b then a + (j : Int) else a - 1 - (j : Int)
theorem step_next (b : Bool) (a : Int) (j : Nat) : stepP b a (j + 1) = if b then stepP b a j + 1 else stepP b a j - 1 := by
  cases b
  · show a - 1 - ((j + 1 : Nat) : Int) = a - 1 - (j : Int) - 1
    omega
  · show a + ((j + 1 : Nat) : Int) = a + (j : Int) + 1
    omega
/-- one verse on the ring -/
theorem ring_turn {R : List Int} {N j : Nat} {a : Int} {ve : Ve} (hr : Rh.rI R (j : Int) = riseOf ve) (hc : 1 ≤ ve.2 ∧ ve.2 ≤ 6) (hj : j + 10 ≤ N) (h : Rh.left' N a (Rh.st R N j).1 = (Rh.st R N j).2) :
    ∃ X : Nat, (Rh.st R N j).1.contains (stepP ve.1 a X % (N : Int)) = false ∧ ((Rh.passed N (Rh.st R N j).1 (stepP ve.1 a) X : Nat) : Int) = ve.2 - 1 ∧
      (Rh.st R N (j + 1)).1 = (Rh.st R N j).1 ++ [stepP ve.1 a X % (N : Int)] ∧ Rh.left' N (if ve.1 then stepP ve.1 a X + 1 else stepP ve.1 a X) (Rh.st R N (j + 1)).1 = (Rh.st R N (j + 1)).2 := by
  have hl := Rh.st_len R N j (by omega)
  have hst : Rh.st R N (j + 1) = ((Rh.st R N j).1 ++ [(Rh.st R N j).2.getD (Rh.atR (riseOf ve) (Rh.st R N j).2.length) 0], Rh.cut (Rh.st R N j).2 (Rh.atR (riseOf ve) (Rh.st R N j).2.length)) := by
    show ((Rh.st R N j).1 ++ [(Rh.st R N j).2.getD (Rh.atR (Rh.rI R j) (Rh.st R N j).2.length) 0], Rh.cut (Rh.st R N j).2 (Rh.atR (Rh.rI R j) (Rh.st R N j).2.length)) = _
    rw [hr]
  obtain ⟨c, hcv⟩ : ∃ c : Nat, (c : Int) = ve.2 - 1 := ⟨(ve.2 - 1).toNat, by omega⟩
  cases hb : ve.1 with
  | true =>
    have ha : Rh.atR (riseOf ve) (Rh.st R N j).2.length = c := by
      unfold Rh.atR riseOf
      rw [hb, if_pos rfl, hl, Int.emod_eq_of_lt (by omega) (by omega)]
      omega
    obtain ⟨X, h1, h2, h3, h4⟩ := Rh.turn_on (n := N) (a := a) (f := (Rh.st R N j).1) (c := c) (by rw [h, hl]; omega)
    rw [h] at h3 h4
    rw [hst, ha, h3]
    exact ⟨X, h1, by rw [← hcv]; exact congrArg _ h2, rfl, h4⟩
  | false =>
    have ha : Rh.atR (riseOf ve) (Rh.st R N j).2.length = (Rh.st R N j).2.length - 1 - c := by
      unfold Rh.atR riseOf
      rw [hb, if_neg Bool.false_ne_true, hl]
      have e : 1 - ve.2 - 1 = (((N - j : Nat) : Int) - ve.2) - ((N - j : Nat) : Int) := by omega
      rw [e, Int.sub_emod_right, Int.emod_eq_of_lt (by omega) (by omega)]
      omega
    obtain ⟨X, h1, h2, h3, h4⟩ := Rh.turn_back (n := N) (a := a) (f := (Rh.st R N j).1) (c := c) (by rw [h, hl]; omega)
    rw [h] at h3 h4
    rw [hst, ha, h3]
    exact ⟨X, h1, by rw [← hcv]; exact congrArg _ h2, rfl, h4⟩
theorem in_go {K : PySem.W.Frag} {H : Hp} {q : Addr} {f : List Int} {x : Int} {Q : VK} (hq : H q = some (.lst (f.map V.int))) (k : Q (.bl (f.contains x)) H) : rIn K false (.int x) (.ref q) H Q := by
  refine ⟨q, _, rfl, .inl (SqL.of hq), rfl, flat_ints _, ?_⟩
  show Q (V.bl (inV (.int x) (f.map V.int))) H
  rw [inV_int]
  exact k
theorem notin_go {K : PySem.W.Frag} {H : Hp} {q : Addr} {f : List Int} {x : Int} {Q : VK} (hq : H q = some (.lst (f.map V.int))) (k : Q (.bl (!f.contains x)) H) : rIn K true (.int x) (.ref q) H Q := by
  refine ⟨q, _, rfl, .inl (SqL.of hq), rfl, flat_ints _, ?_⟩
  show Q (V.bl (!inV (.int x) (f.map V.int))) H
  rw [inV_int]
  exact k
theorem first_walk {K : PySem.W.Frag} {E : XK} {D : Ends} {H : Hp} {s0 s2 s5 s7 : Option V} {q : Addr} {N : Nat} {f : List Int} {a : Int} {b : Bool} {c : Int} {X : Nat} (hq : H q = some (.lst (f.map V.int)))
    (hX : f.contains (stepP b a X % (N : Int)) = false) (hp : ((Rh.passed N f (stepP b a) X : Nat) : Int) = c - 1) (hN : 1000 ≤ N)
    (k : t_law_first_2a_4 K E D [s0, some (.int N), s2, some (.ref q), some (.int (stepP b a X)), s5, some (.str (wayS b)), s7, some (.int 1)] H) :
    t_law_first_2a_3 K E D [s0, some (.int N), s2, some (.ref q), some (.int (stepP b a 0)), s5, some (.str (wayS b)), s7, some (.int c)] H := by
  unfold t_law_first_2a_3
  refine ⟨fun m σ H' => ∃ i : Nat, i + m = X ∧ H' = H ∧ σ = [s0, some (.int N), s2, some (.ref q), some (.int (stepP b a i)), s5, some (.str (wayS b)), s7, some (.int (c - (Rh.passed N f (stepP b a) i : Nat)))], ⟨X, 0, by omega, rfl, ?_⟩, ?_⟩
  · show _ = [s0, some (V.int N), s2, some (.ref q), some (.int (stepP b a 0)), s5, some (.str (wayS b)), s7, some (.int (c - ((0 : Nat) : Int)))]
    rw [show c - ((0 : Nat) : Int) = c by omega]
  rintro m σ H' ⟨i, hi, rfl, rfl⟩
  have mono := Rh.passed_mono N f (stepP b a) X i (by omega)
  have hz : (0 : Int) < (N : Int) := by omega
  refine ⟨_, rfl, _, rfl, _, _, rfl, rfl, hz, _, rfl, in_go hq ⟨_, rfl, ?_⟩⟩
  -- one step more
  have step : i < X → (D' : Ends) → (∀ σ' H'', (∃ m', m' < m ∧ ∃ i : Nat, i + m' = X ∧ H'' = H' ∧ σ' = [s0, some (.int N), s2, some (.ref q), some (.int (stepP b a i)), s5, some (.str (wayS b)), s7, some (.int (c - (Rh.passed N f (stepP b a) i : Nat)))]) → D'.nx σ' H'') →
      t_law_first_2a_3a_0 K E D' [s0, some (.int N), s2, some (.ref q), some (.int (stepP b a i)), s5, some (.str (wayS b)), s7, some (.int (c - (Rh.passed N f (stepP b a) i : Nat)))] H' := by
    intro hlt D' hk
    refine ⟨_, rfl, _, rfl, _, rfl, _, _, rfl, rfl, hz, _, rfl, notin_go hq (.inr ⟨_, rfl, _, _, rfl, rfl, ?_⟩)⟩
    have e1 : c - ((Rh.passed N f (stepP b a) i : Nat) : Int) - (if (!f.contains (stepP b a i % (N : Int))) = true then 1 else 0) = c - ((Rh.passed N f (stepP b a) (i + 1) : Nat) : Int) := by
      rw [Rh.passed_succ]
      cases f.contains (stepP b a i % (N : Int)) with
      | true => rw [if_neg (by decide), if_pos rfl]; omega
      | false => rw [if_pos (by decide), if_neg (by decide)]; omega
    show t_law_first_2a_3a_1 K E D' [s0, some (.int N), s2, some (.ref q), some (.int (stepP b a i)), s5, some (.str (wayS b)), s7, some (.int (c - ((Rh.passed N f (stepP b a) i : Nat) : Int) - (if (!f.contains (stepP b a i % (N : Int))) = true then 1 else 0)))] H'
    rw [e1]
    have fin : D'.nx [s0, some (.int N), s2, some (.ref q), some (.int (stepP b a (i + 1))), s5, some (.str (wayS b)), s7, some (.int (c - ((Rh.passed N f (stepP b a) (i + 1) : Nat) : Int)))] H' :=
      hk _ _ ⟨m - 1, by omega, i + 1, by omega, rfl, rfl⟩
    rw [step_next] at fin
    refine ⟨_, rfl, rfl, _, rfl, ?_⟩
    rw [d_str]
    cases b with
    | true => exact iteT ⟨_, rfl, _, _, rfl, rfl, fin⟩
    | false => exact iteF ⟨_, rfl, _, _, rfl, rfl, fin⟩
  cases hin : f.contains (stepP b a i % (N : Int)) with
  | true =>
    have hlt : i < X := by
      rcases Nat.lt_or_ge i X with h | h
      · exact h
      · have : i = X := by omega
        subst this
        rw [hin] at hX
        cases hX
    refine iteT' rfl (iteT' rfl ?_)
    exact ⟨fun σ' H'' => ∃ m', m' < m ∧ ∃ i : Nat, i + m' = X ∧ H'' = H' ∧ σ' = [s0, some (.int N), s2, some (.ref q), some (.int (stepP b a i)), s5, some (.str (wayS b)), s7, some (.int (c - (Rh.passed N f (stepP b a) i : Nat)))], fun _ _ h => h, step hlt _ fun _ _ h => h⟩
  | false =>
    refine iteF' rfl ?_
    refine ⟨_, rfl, _, _, rfl, rfl, _, rfl, ?_⟩
    by_cases hlt : i < X
    · have m2 := Rh.passed_mono N f (stepP b a) X (i + 1) (by omega)
      rw [Rh.passed_succ, hin, if_neg Bool.false_ne_true] at m2
      refine iteT' (decide_eq_true (by omega)) ?_
      exact ⟨fun σ' H'' => ∃ m', m' < m ∧ ∃ i : Nat, i + m' = X ∧ H'' = H' ∧ σ' = [s0, some (.int N), s2, some (.ref q), some (.int (stepP b a i)), s5, some (.str (wayS b)), s7, some (.int (c - (Rh.passed N f (stepP b a) i : Nat)))], fun _ _ h => h, step hlt _ fun _ _ h => h⟩
    · have : i = X := by omega
      subst this
      have e1 : c - ((Rh.passed N f (stepP b a) i : Nat) : Int) = 1 := by omega
      refine iteF' (decide_eq_false (by omega)) ?_
      rw [e1]
      exact k
theorem first_body {K : PySem.W.Frag} {E : XK} {D : Ends} {H : Hp} {s0 s2 s5 s7 : Option V} {q : Addr} {N : Nat} {f : List Int} {a : Int} {b : Bool} {c : Int} {X : Nat} (hq : H q = some (.lst (f.map V.int)))
    (hX : f.contains (stepP b a X % (N : Int)) = false) (hp : ((Rh.passed N f (stepP b a) X : Nat) : Int) = c - 1) (hN : 1000 ≤ N) (hf : f.length ≤ 100)
    (k : ∀ H2, Fx q H H2 → H2 q = some (.lst (f.map V.int ++ [V.int (stepP b a X % (N : Int))])) → D.nx [s0, some (.int N), s2, some (.ref q), some (.int (if b then stepP b a X + 1 else stepP b a X)), s5, some (.str (wayS b)), s7, some (.int 1)] H2) :
    t_law_first_2a_2 K E D [s0, some (.int N), s2, some (.ref q), some (.int a), s5, some (.str (wayS b)), s7, some (.int c)] H := by
  have go : t_law_first_2a_3 K E D [s0, some (.int N), s2, some (.ref q), some (.int (stepP b a 0)), s5, some (.str (wayS b)), s7, some (.int c)] H := by
    refine first_walk hq hX hp hN ?_
    refine ⟨_, rfl, .inl ⟨rfl, _, SqL.of hq⟩, _, rfl, _, rfl, _, _, rfl, rfl, (by omega), q, _, _, rfl, rfl, hq, (by rw [List.length_map]; exact Nat.le_trans (show f.length + 1 ≤ 1000 by omega) (by decide)), ?_⟩
    have fin := k _ fx_upd upd_same
    refine ⟨_, rfl, rfl, _, rfl, ?_⟩
    rw [d_str]
    cases b with
    | true => exact iteT ⟨_, rfl, _, _, rfl, rfl, fin⟩
    | false => exact iteF ⟨_, rfl, fin⟩
  have e0 : stepP b a 0 = if b then a else a - 1 := by
    cases b
    · show a - 1 - ((0 : Nat) : Int) = a - 1
      omega
    · show a + ((0 : Nat) : Int) = a
      omega
  rw [e0] at go
  refine ⟨_, rfl, rfl, _, rfl, ?_⟩
  rw [d_str]
  cases b with
  | true => exact iteT ⟨_, rfl, go⟩
  | false => exact iteF ⟨_, rfl, _, _, rfl, rfl, go⟩
theorem pure_law_first {K : PySem.W.Frag} (ws : List V) (H : Hp) (Q : VK) (E : XK) (h : sp_law_first K ws H Q E) : t_law_first_0 K E { nx := fun _ H' => Q .non H', rt := Q } (start ["_law_t", "_law_n", "_law_many", "_law_found", "_law_at", "_law_k", "_law_way", "_law_count", "_law_left"] ws) H := by
  unfold sp_law_first at h
  obtain ⟨t, vs, left, N, m, rfl, hT, ok, hN, hm, k⟩ := h
  obtain ⟨a, v, rfl, hs, hv⟩ := tD_at hT
  obtain ⟨b, xs, rfl, hb, hall⟩ := dp_tup (id hv)
  have l1 := ok.l1
  have hl : xs.length = vs.length := by
    have := dpa_len hall
    rw [List.length_map] at this
    exact this
  show t_law_first_0 K E _ [some (.ref a), some (.int N), some (.int m), none, none, none, none, none, none] H
  refine ⟨Nat.zero_le _, fun q hq => ?_⟩
  have e0 := ex_new (o := .lst []) hq
  show t_law_first_2 K E { nx := fun _ H' => Q .non H', rt := Q } [some (.ref a), some (.int N), some (.int m), some (.ref q), some (.int 0), none, none, none, none] (upd H q (.lst []))
  unfold t_law_first_2
  refine ⟨_, rfl, _, rfl, by omega, by omega, for_range (fun i σ H' => ∃ (at' : Int) (u5 u6 u7 u8 : Option V), σ = [some (.ref a), some (.int N), some (.int m), some (.ref q), some (.int at'), u5, u6, u7, u8] ∧ Ex H H' ∧ H' q = some (.lst ((Rh.st (rises vs) N i).1.map V.int)) ∧ Rh.left' N at' (Rh.st (rises vs) N i).1 = (Rh.st (rises vs) N i).2)
    ⟨0, none, none, none, none, rfl, e0, upd_same, Rh.left_start N⟩ ?_ ?_⟩
  · rintro i σ H' hi ⟨at', u5, u6, u7, u8, rfl, e, hq1, hr⟩
    have e9 : (0 : Int) + (i : Int) = (i : Int) := by omega
    rw [e9]
    have hjm : (i : Int) % (vs.length : Int) = ((i % vs.length : Nat) : Int) := rfl
    have hlt : i % vs.length < vs.length := Nat.mod_lt _ (by omega)
    obtain ⟨x, hx, hdx⟩ := dpa_get hall (show (vs.map vD)[i % vs.length]? = some (vD vs[i % vs.length]) by rw [List.getElem?_map, List.getElem?_eq_getElem hlt]; rfl)
    obtain ⟨ve, tt, hve, rfl, ht⟩ := vs_at hall hx
    have hvc := ok.cnt ve (List.mem_of_getElem? hve)
    have hri : Rh.rI (rises vs) (i : Int) = riseOf ve := by
      unfold Rh.rI
      rw [rises_len, hjm]
      show (rises vs).getD (i % vs.length) 0 = _
      unfold rises
      rw [List.getD_eq_getElem?_getD, List.getElem?_map, hve]
      rfl
    obtain ⟨X, x1, x2, x3, x4⟩ := ring_turn hri hvc (by omega) hr
    have hlen1 := Rh.st_len1 (rises vs) N i
    refine ⟨_, rfl, a, _, 0, _, rfl, rfl, sqt_ex e hs, at0, _, rfl, _, rfl, a, _, 0, _, rfl, rfl, sqt_ex e hs, at0, b, xs, rfl, .inr (sqt_ex e hb), _, _, rfl, rfl, (by omega), ?_⟩
    rw [hl]
    refine ⟨b, xs, _, _, rfl, rfl, sqt_ex e hb, at_of hjm hx, tt, _, rfl, sqt_ex e ht, rfl, _, _, rfl, _, _, rfl, rfl, ?_⟩
    refine ⟨_, rfl, ?_⟩
    show t_law_first_2a_2 K E _ [some (.ref a), some (.int N), some (.int m), some (.ref q), some (.int at'), some (.int i), some (.str (wayS ve.1)), some (.int ve.2), some (.int ve.2)] H'
    refine first_body (f := (Rh.st (rises vs) N i).1) hq1 x1 x2 hN (by rw [hlen1]; omega) fun H2 e2 h2 => ⟨_, _, _, _, _, rfl, ?_, ?_, x4⟩
    · exact ex_fx e hq e2
    · rw [x3, List.map_append]
      exact h2
  · rintro σ H' ⟨at', u5, u6, u7, u8, rfl, e, hq1, hr⟩
    exact ⟨_, rfl, k q H' hq e hq1⟩

end Z
namespace Z
open PySem PySem.Spec PyProof.Rows L2
local macro_rules | `(tactic| walk_at "look") => `(tactic| first | assumption | exact upd_same | exact SqL.of (by assumption) | exact SqT.of (by assumption) | exact SqL.of upd_same | exact SqT.of upd_same)
local macro_rules | `(tactic| walk_at "at") => `(tactic| first | exact at0 | exact at1 | exact at2 | exact at3 | exact ix0 | exact ix1 | assumption | exact atI_nat (by rfl))
local macro_rules | `(tactic| walk_at "sd") => `(tactic| ((try dsimp only); first | assumption | omega | (unfold CMul; omega) | (unfold CDiv; omega) | (unfold CPow; decide) | decide))
local macro_rules | `(tactic| walk_at "st") => `(tactic| first
  | (refine ⟨_, rfl, ?_⟩)
  | (refine ⟨_, _, rfl, rfl, ?_⟩)
  | (refine ⟨rfl, ?_⟩)
  | (refine .inl ⟨_, rfl, ?_⟩)
  | (refine ⟨_, _, _, _, rfl, rfl, (by walk_at "look"), (by walk_at "at"), ?_⟩)
  | (refine ⟨_, _, rfl, .inl (by walk_at "look"), ?_⟩)
  | (refine And.intro (by walk_at "sd") ?_)
  | fail "no step")
local macro_rules | `(tactic| walk_at "go") => `(tactic| repeat' (walk_at "st"))
local macro_rules | `(tactic| walk_at "ans") => `(tactic| (intro Q q; (repeat' (walk_at "st")); exact q))

/-! ### what the calls answer, at numbers that are right -/
section
variable {K : PySem.W.Frag} {E : XK} {H : Hp} {a : Addr} {vs : List Ve} {left n : Int} {Q : VK}
theorem bet_no {P : Prop} {m : Int} {x y : Int} (h1 : x ≤ m) (h2 : m ≤ y) (h : isBet (.int m) x y = false) : P := by
  rw [isBet_of h1 h2] at h
  cases h
theorem kept_go (R : RhAt K H a vs left) (ok : RhOk vs left) (h1 : left ≤ n) (h2 : n ≤ GREAT) (q : ∀ (p : Addr) (H' : Hp), H p = none → Ex H H' → H' p = some (.lst ((keptL vs left n).map V.int)) → Q (.ref p) H') : sp_kept K ([.ref a, .int n] ++ []) H Q E := by
  unfold sp_kept
  refine ⟨a, vs, left, _, .int n, rfl, R, ok, .int _, bet_no h1 h2, fun m em _ _ => ?_⟩
  have := PyData.int.inj em
  subst this
  exact q
theorem heir_go (R : RhAt K H a vs left) (ok : RhOk vs left) (h1 : left ≤ n) (h2 : n ≤ GREAT) (q : ∀ H' : Hp, Ex H H' → Q (.int (heirF vs left n)) H') : sp_heir K ([.ref a, .int n] ++ []) H Q E := by
  unfold sp_heir
  refine ⟨a, vs, left, _, .int n, rfl, R, ok, .int _, bet_no h1 h2, fun m em _ _ => ?_⟩
  have := PyData.int.inj em
  subst this
  exact q
theorem gone_go {t : Int} (R : RhAt K H a vs left) (ok : RhOk vs left) (h1 : left ≤ n) (h2 : n ≤ GREAT) (t1 : 1 ≤ t) (t2 : t ≤ n - left) (q : ∀ H' : Hp, Ex H H' → Q (.int (Rh.goneF (rises vs) n t)) H') : sp_gone K ([.ref a, .int n, .int t] ++ []) H Q E := by
  unfold sp_gone
  refine ⟨a, vs, left, _, _, .int n, .int t, rfl, R, ok, .int _, .int _, bet_no h1 h2, fun m em _ _ => ?_⟩
  have := PyData.int.inj em
  subst this
  refine ⟨bet_no t1 t2, fun m em _ _ => ?_⟩
  have := PyData.int.inj em
  subst this
  exact q
theorem when_ask {c : Int} (R : RhAt K H a vs left) (ok : RhOk vs left) (h1 : left ≤ n) (h2 : n ≤ GREAT) (t1 : 0 ≤ c) (t2 : c ≤ n - 1) (q : ∀ H' : Hp, Ex H H' → Q (oV (whenF vs left n c)) H') : sp_when K ([.ref a, .int n, .int c] ++ []) H Q E := by
  unfold sp_when
  refine ⟨a, vs, left, _, _, .int n, .int c, rfl, R, ok, .int _, .int _, bet_no h1 h2, fun m em _ _ => ?_⟩
  have := PyData.int.inj em
  subst this
  refine ⟨bet_no t1 t2, fun m em _ _ => ?_⟩
  have := PyData.int.inj em
  subst this
  exact q
end
/-! ### laws of gone, when, kept, heir at any number -/
theorem nat_of {left n : Int} (ok : 1 ≤ left) (h : left ≤ n) : ∃ N : Nat, (N : Int) = n := ⟨n.toNat, by omega⟩
theorem gone_bd {R : List Int} {n t : Int} (t1 : 1 ≤ t) (t2 : t < n) : 0 ≤ Rh.goneF R n t ∧ Rh.goneF R n t < n := by
  unfold Rh.goneF
  have h0 := Int.emod_nonneg (n - t + Rh.rI R (t - 1)) (show n - t + 1 ≠ 0 by omega)
  have h1 := Int.emod_lt_of_pos (n - t + Rh.rI R (t - 1)) (show 0 < n - t + 1 by omega)
  have := Rh.lift_bd R n (t - 1).toNat (n - t + 1) _ h0 h1
  omega
theorem when_gone {vs : List Ve} {left n t : Int} (ok : RhOk vs left) (h1 : 1 ≤ t) (h2 : t ≤ n - left) : whenF vs left n (Rh.goneF (rises vs) n t) = some t := by
  have lf := ok.lf
  obtain ⟨N, rfl⟩ := nat_of lf.1 (show left ≤ n by omega)
  obtain ⟨b0, b1⟩ := gone_bd (R := rises vs) (n := (N : Int)) (t := t) h1 (by omega)
  have hj := order_gone (vs := vs) (left := left) (N := N) (i := (t - 1).toNat) (by omega)
  have et : (((t - 1).toNat : Nat) : Int) + 1 = t := by omega
  rw [et] at hj
  rcases order_when (vs := vs) (left := left) (N := N) ok (by omega) b0 b1 with ⟨j, w1, w2, w3⟩ | ⟨w1, w2⟩
  · have nd1 := (List.nodup_append.mp (order_nodup vs left N)).1
    have ej : j = (t - 1).toNat := by
      obtain ⟨g1, g2⟩ := List.getElem?_eq_some_iff.mp w2
      obtain ⟨g3, g4⟩ := List.getElem?_eq_some_iff.mp hj
      rcases Nat.lt_trichotomy j (t - 1).toNat with h | h | h
      · exact absurd (g2.trans g4.symm) (List.pairwise_iff_getElem.mp nd1 _ _ g1 g3 h)
      · exact h
      · exact absurd (g4.trans g2.symm) (List.pairwise_iff_getElem.mp nd1 _ _ g3 g1 h)
    rw [w1, ej, et]
  · exact absurd (List.mem_of_getElem? hj) w2
theorem kept_row {vs : List Ve} {left : Int} {N : Nat} (ok : RhOk vs left) (h : left ≤ N) (c : Int) : c ∈ keptL vs left N ↔ c ∈ (Rh.st (rises vs) N (N - left.toNat)).2 := by
  rw [← order_split ok h]
  exact (sortI_perm _).mem_iff
theorem when_kept {vs : List Ve} {left n c : Int} (ok : RhOk vs left) (h : left ≤ n) (h0 : 0 ≤ c) (h1 : c ≤ n - 1) : (whenF vs left n c).isNone = (keptL vs left n).contains c := by
  have lf := ok.lf
  obtain ⟨N, rfl⟩ := nat_of lf.1 h
  rcases order_when (vs := vs) (left := left) (N := N) (c := c) ok h h0 (by omega) with ⟨j, w1, w2, w3⟩ | ⟨w1, w2⟩
  · rw [w1]
    cases hc : (keptL vs left N).contains c with
    | false => rfl
    | true =>
      have m := (kept_row ok h c).mp (List.contains_iff_mem.mp hc)
      exact absurd rfl ((List.nodup_append.mp (order_nodup vs left N)).2.2 c (List.mem_of_getElem? w2) c m)
  · rw [w1]
    have m := order_mem (vs := vs) (left := left) (N := N) h0 (by omega)
    rcases List.mem_append.mp m with m | m
    · exact absurd m w2
    · exact (List.contains_iff_mem.mpr ((kept_row ok h c).mpr m)).symm
theorem kept_len {vs : List Ve} {left n : Int} (ok : RhOk vs left) (h : left ≤ n) : ((keptL vs left n).length : Int) = left := by
  have lf := ok.lf
  unfold keptL Rh.rowL
  rw [(sortI_perm _).length_eq, List.length_map, List.length_range]
  omega
theorem kept_asc {vs : List Ve} {left n : Int} (ok : RhOk vs left) (h : left ≤ n) : (keptL vs left n).Pairwise (· < ·) := by
  have lf := ok.lf
  obtain ⟨N, rfl⟩ := nat_of lf.1 h
  have nd : (keptL vs left N).Nodup := by
    rw [← order_split ok h]
    exact (sortI_perm _).nodup_iff.mpr (List.nodup_append.mp (order_nodup vs left N)).2.1
  have pw : (keptL vs left N).Pairwise (· ≤ ·) := sortI_pw _
  exact (List.pairwise_and_iff.mpr ⟨pw, nd⟩).imp fun {x y} ⟨g1, g2⟩ => Int.lt_iff_le_and_ne.mpr ⟨g1, g2⟩
theorem kept_bd {vs : List Ve} {left n c : Int} (ok : RhOk vs left) (h : left ≤ n) (hc : c ∈ keptL vs left n) : 0 ≤ c ∧ c < n := by
  have lf := ok.lf
  unfold keptL Rh.rowL at hc
  obtain ⟨q, hq, rfl⟩ := List.mem_map.mp ((sortI_perm _).mem_iff.mp hc)
  have hq := List.mem_range.mp hq
  have e : ((left.toNat : Nat) : Int) = left := by omega
  rw [e]
  have := Rh.lift_bd (rises vs) n (n - left).toNat left (q : Int) (by omega) (by omega)
  omega
theorem heir_kept {vs : List Ve} {left n : Int} (ok : RhOk vs left) (h : left ≤ n) : heirF vs left n ∈ keptL vs left n := by
  have lf := ok.lf
  unfold keptL Rh.rowL heirF
  refine (sortI_perm _).mem_iff.mpr (List.mem_map.mpr ⟨0, List.mem_range.mpr (by omega), ?_⟩)
  have e : ((left.toNat : Nat) : Int) = left := by omega
  rw [e]
  rfl
theorem sort_perm {l l' : List Int} (p : l.Perm l') : sortI l = sortI l' := sort_uniq ((sortI_perm l).trans p) (sortI_pw l)
theorem rises_pos {vs : List Ve} {left : Int} (ok : RhOk vs left) : 0 < (rises vs).length := by
  rw [rises_len]
  exact ok.l1
/-- the last rise -/
theorem last_rise {R : List Int} (h : 0 < R.length) : Rh.rI R (-1) = R.getD (R.length - 1) 0 := by
  unfold Rh.rI
  have e : (-1 : Int) % (R.length : Int) = (R.length : Int) - 1 := by
    have : (-1 : Int) = ((R.length : Int) - 1) - (R.length : Int) := by omega
    rw [this, Int.sub_emod_right]
    exact Int.emod_eq_of_lt (by omega) (by omega)
  rw [e]
  congr 1
  omega
theorem kept_turned {vs : List Ve} {left n : Int} (ok : RhOk vs left) (h : left ≤ n) : keptL (rotV vs) left (n + 1) = sortI ((keptL vs left n).map fun c => (c + Rh.rI (rises vs) (-1)) % (n + 1)) := by
  have lf := ok.lf
  have e : ((left.toNat : Nat) : Int) = left := by omega
  have e1 : (n + 1 - left).toNat = (n - left).toNat + 1 := by omega
  have er : Rh.rowL (Rh.rot (rises vs)) (n + 1) left.toNat = (Rh.rowL (rises vs) n left.toNat).map fun c => (c + Rh.rI (rises vs) (-1)) % (n + 1) := by
    unfold Rh.rowL
    rw [List.map_map]
    refine List.map_congr_left fun q _ => ?_
    rw [e, e1, Rh.lift_turned _ (rises_pos ok) n left _ _ (by omega)]
    rfl
  show sortI _ = _
  rw [rotV_rises, er]
  exact sort_perm ((sortI_perm _).symm.map _)
theorem heir_turned {vs : List Ve} {left n : Int} (ok : RhOk vs left) (h : left ≤ n) : heirF (rotV vs) left (n + 1) = (heirF vs left n + Rh.rI (rises vs) (-1)) % (n + 1) := by
  have lf := ok.lf
  have e1 : (n + 1 - left).toNat = (n - left).toNat + 1 := by omega
  unfold heirF
  rw [rotV_rises, e1, Rh.lift_turned _ (rises_pos ok) n left _ _ (by omega)]

end Z
namespace Z
open PySem PySem.Spec PyProof.Rows L2
local macro_rules | `(tactic| walk_at "look") => `(tactic| first | assumption | exact upd_same | exact SqL.of (by assumption) | exact SqT.of (by assumption) | exact SqL.of upd_same | exact SqT.of upd_same)
local macro_rules | `(tactic| walk_at "at") => `(tactic| first | exact at0 | exact at1 | exact at2 | exact at3 | exact ix0 | exact ix1 | assumption | exact atI_nat (by rfl))
local macro_rules | `(tactic| walk_at "sd") => `(tactic| ((try dsimp only); first | assumption | omega | (unfold CMul; omega) | (unfold CDiv; omega) | (unfold CPow; decide) | decide))
local macro_rules | `(tactic| walk_at "st") => `(tactic| first
  | (refine ⟨_, rfl, ?_⟩)
  | (refine ⟨_, _, rfl, rfl, ?_⟩)
  | (refine ⟨rfl, ?_⟩)
  | (refine .inl ⟨_, rfl, ?_⟩)
  | (refine ⟨_, _, _, _, rfl, rfl, (by walk_at "look"), (by walk_at "at"), ?_⟩)
  | (refine ⟨_, _, rfl, .inl (by walk_at "look"), ?_⟩)
  | (refine And.intro (by walk_at "sd") ?_)
  | fail "no step")
local macro_rules | `(tactic| walk_at "go") => `(tactic| repeat' (walk_at "st"))
local macro_rules | `(tactic| walk_at "ans") => `(tactic| (intro Q q; (repeat' (walk_at "st")); exact q))

/-! ### mirrored, told twice, one left fewer -/
def mirV (vs : List Ve) : List Ve := vs.map fun v => (!v.1, v.2)
theorem mirV_rises (vs : List Ve) : rises (mirV vs) = Rh.mirr (rises vs) := by
  unfold mirV rises Rh.mirr
  rw [List.map_map, List.map_map]
  refine List.map_congr_left fun v _ => ?_
  show riseOf (!v.1, v.2) = 1 - riseOf v
  unfold riseOf
  cases v.1 with
  | true =>
    show (if (!true) = true then v.2 else 1 - v.2) = 1 - (if true = true then v.2 else 1 - v.2)
    rw [if_neg (by decide), if_pos rfl]
  | false =>
    show (if (!false) = true then v.2 else 1 - v.2) = 1 - (if false = true then v.2 else 1 - v.2)
    rw [if_pos (by decide), if_neg (by decide)]
    omega
theorem mirV_ok {vs : List Ve} {left : Int} (ok : RhOk vs left) : RhOk (mirV vs) left := by
  have hl : (mirV vs).length = vs.length := List.length_map ..
  refine ⟨by rw [hl]; exact ok.l1, by rw [hl]; exact ok.l4, fun w hw => ?_, ok.lf⟩
  obtain ⟨v, hv, rfl⟩ := List.mem_map.mp hw
  exact ok.cnt v hv
theorem mir_lift {vs : List Ve} {left n : Int} (ok : RhOk vs left) (k : Nat) (s q : Int) (hs : 0 ≤ s) : Rh.lift (rises (mirV vs)) n k s (s - 1 - q) = s + (k : Int) - 1 - Rh.lift (rises vs) n k s q := by
  rw [mirV_rises]
  exact Rh.lift_mirr _ (rises_pos ok) n k s q hs
theorem kept_mirror {vs : List Ve} {left n : Int} (ok : RhOk vs left) (h : left ≤ n) : keptL (mirV vs) left n = sortI ((keptL vs left n).map fun c => n - 1 - c) := by
  have lf := ok.lf
  have e : ((left.toNat : Nat) : Int) = left := by omega
  have p : (Rh.rowL (rises (mirV vs)) n left.toNat).Perm ((keptL vs left n).map fun c => n - 1 - c) := by
    refine List.Perm.trans ?_ ((sortI_perm _).symm.map _)
    have er : Rh.rowL (rises (mirV vs)) n left.toNat = ((Rh.rowL (rises vs) n left.toNat).map fun c => n - 1 - c).reverse := by
      unfold Rh.rowL
      refine List.ext_getElem? fun i => ?_
      by_cases hi : i < left.toNat
      · rw [List.getElem?_map, List.getElem?_range hi, List.getElem?_reverse (by rw [List.length_map, List.length_map, List.length_range]; exact hi), List.length_map, List.length_map, List.length_range, List.getElem?_map, List.getElem?_map, List.getElem?_range (by omega)]
        show some (Rh.lift _ n _ _ (i : Int)) = some (n - 1 - Rh.lift _ n _ _ ((left.toNat - 1 - i : Nat) : Int))
        have := mir_lift (n := n) ok (n - (left.toNat : Nat)).toNat (left.toNat : Nat) ((left.toNat - 1 - i : Nat) : Int) (by omega)
        have e1 : ((left.toNat : Nat) : Int) - 1 - ((left.toNat - 1 - i : Nat) : Int) = (i : Int) := by omega
        rw [e1] at this
        rw [this]
        congr 1
        omega
      · rw [List.getElem?_eq_none (by rw [List.length_map, List.length_range]; omega), List.getElem?_eq_none (by rw [List.length_reverse, List.length_map, List.length_map, List.length_range]; omega)]
    rw [er]
    exact List.reverse_perm _
  exact sort_perm p
theorem gone_mirror {vs : List Ve} {left n t : Int} (ok : RhOk vs left) (h1 : 1 ≤ t) (h2 : t ≤ n) : Rh.goneF (rises (mirV vs)) n t = n - 1 - Rh.goneF (rises vs) n t := by
  unfold Rh.goneF
  have hr : Rh.rI (rises (mirV vs)) (t - 1) = 1 - Rh.rI (rises vs) (t - 1) := by
    rw [mirV_rises]
    exact Rh.rI_mirr _ (rises_pos ok) _
  have hm := Rh.mirr_step (n - t) 0 (n - t + Rh.rI (rises vs) (t - 1)) (by omega)
  have e1 : n - t - 1 - 0 + (1 - (n - t + Rh.rI (rises vs) (t - 1))) = -Rh.rI (rises vs) (t - 1) := by omega
  rw [e1] at hm
  have e2 : n - t + (1 - Rh.rI (rises vs) (t - 1)) = -Rh.rI (rises vs) (t - 1) + (n - t + 1) := by omega
  rw [hr, e2, Int.add_emod_right, hm]
  have e3 : (0 : Int) + (n - t + Rh.rI (rises vs) (t - 1)) = n - t + Rh.rI (rises vs) (t - 1) := by omega
  rw [e3]
  have := mir_lift (n := n) ok (t - 1).toNat (n - t + 1) ((n - t + Rh.rI (rises vs) (t - 1)) % (n - t + 1)) (by omega)
  have e4 : n - t + 1 - 1 - (n - t + Rh.rI (rises vs) (t - 1)) % (n - t + 1) = n - t - (n - t + Rh.rI (rises vs) (t - 1)) % (n - t + 1) := by omega
  rw [e4] at this
  rw [this]
  omega
/-- told twice over -/
theorem twice_rises (vs : List Ve) : rises (vs ++ vs) = rises vs ++ rises vs := List.map_append ..
theorem kept_twice {vs : List Ve} {left n : Int} (ok : RhOk vs left) : keptL (vs ++ vs) left n = keptL vs left n := by
  unfold keptL Rh.rowL
  congr 1
  refine List.map_congr_left fun q _ => ?_
  rw [twice_rises]
  exact Rh.lift_twice _ (rises_pos ok) n _ _ _
/-- one left fewer: they are left too -/
theorem kept_fewer {vs : List Ve} {left n c : Int} (ok : RhOk vs left) (h2 : 2 ≤ left) (h : left ≤ n) (hc : c ∈ keptL vs (left - 1) n) : c ∈ keptL vs left n := by
  have lf := ok.lf
  unfold keptL Rh.rowL at hc ⊢
  obtain ⟨q, hq, rfl⟩ := List.mem_map.mp ((sortI_perm _).mem_iff.mp hc)
  have hq := List.mem_range.mp hq
  have e1 : (((left - 1).toNat : Nat) : Int) = left - 1 := by omega
  have e2 : ((left.toNat : Nat) : Int) = left := by omega
  refine (sortI_perm _).mem_iff.mpr (List.mem_map.mpr ⟨(((q : Int) + Rh.rI (rises vs) (n - (left - 1) - 1)) % left).toNat, ?_, ?_⟩)
  · have g0 := Int.emod_nonneg ((q : Int) + Rh.rI (rises vs) (n - (left - 1) - 1)) (show left ≠ 0 by omega)
    have g1 := Int.emod_lt_of_pos ((q : Int) + Rh.rI (rises vs) (n - (left - 1) - 1)) (show 0 < left by omega)
    exact List.mem_range.mpr (by omega)
  · rw [e1, e2]
    have g0 := Int.emod_nonneg ((q : Int) + Rh.rI (rises vs) (n - (left - 1) - 1)) (show left ≠ 0 by omega)
    have e3 : (((((q : Int) + Rh.rI (rises vs) (n - (left - 1) - 1)) % left).toNat : Nat) : Int) = ((q : Int) + Rh.rI (rises vs) (n - (left - 1) - 1)) % left := by omega
    have e4 : (n - (left - 1)).toNat = (n - left).toNat + 1 := by omega
    have e5 : left - 1 + 1 = left := by omega
    rw [e3, e4, Rh.lift_succ, e5]

end Z
/-! A comprehension that makes data, new at each turn. -/
namespace Z
open PySem PySem.Spec PyProof.Rows L2
section
variable {K : PySem.W.Frag} {J : It} {n : Nat} {G : Hp → Prop} {Y : Nat → Hp → V → Hp → Prop}
theorem lc_data (w : Walk J n G Y) {g : TG} {te : TE} {vs : List Nat} {σ : L2.St} {H1 : Hp} {D : Addr} {Qd : Hp → Prop} (f : Nat → PyData) (hf : ∀ i, flatD (f i) = true) (hD : H1 D = none) (hn : n < sizeLine) (hG : ∀ H, Ex H1 H → G H)
    (hs : ∀ i x H H', i < n → Ex H1 H → Y i H x H' → ∀ (Q : VK) (Zf : Hp → Prop), (∀ y H4, Ex H H4 → Dp K H4 y (f i) → Q y H4) →
      g x (wipe σ vs) H' fun σ2 H2 => wipe σ2 vs = wipe σ vs ∧ tYes σ2 H2 fun b H3 => if b = true then te σ2 H3 Q else Zf H3)
    (hd : ∀ H acc, Ex H1 H → H D = some (.lst acc) → DpAll K H acc ((List.range n).map f) → Qd H) :
    ∃ W : Nat → Nat → Hp → Prop, (∃ m, W 0 m (upd H1 D (.lst []))) ∧ ∀ i m H, W i m H →
      (J.stop i H ∧ Qd H) ∨ (J.go i H ∧ ∃ Nx : Hp → Prop, (∀ H', Nx H' → ∃ m', m' < m ∧ W (i + 1) m' H') ∧ ∀ x H', J.yld i H x H' → g x (wipe σ vs) H' fun σ2 H2 => wipe σ2 vs = wipe σ vs ∧ tYes σ2 H2 fun b H3 =>
        if b = true then te σ2 H3 fun y H4 => ∃ acc, H4 D = some (.lst acc) ∧ acc.length < sizeLine ∧ Nx (upd H4 D (.lst (acc ++ [y]))) else Nx H3) := by
  have hfl : ∀ l : List Nat, flatDs (l.map f) = true := fun l => by
    induction l with
    | nil => rfl
    | cons a l ih =>
      show (flatD (f a) && flatDs (l.map f)) = true
      rw [hf a, ih]
      rfl
  refine lc_it w (fun i H => Ex H1 H ∧ ∃ acc, H D = some (.lst acc) ∧ DpAll K H acc ((List.range i).map f)) ⟨ex_new hD, [], upd_same, .nil⟩ (fun i H _ h => hG H h.1) (fun i x H H' hi ⟨e, acc, hDi, da⟩ y => ?_) (fun H ⟨e, acc, h1, h2⟩ => hd H acc e h1 h2)
  refine hs i x H H' hi e y _ _ fun z H4 e4 hz => ⟨acc, e4 D _ hDi, ?_, ex_mut (ex_trans e e4) hD, acc ++ [z], upd_same, ?_⟩
  · have := dpa_len da
    rw [List.length_map, List.length_range] at this
    omega
  · rw [List.range_succ, List.map_append]
    have hN : NoT (H4 D) := noT_l (e4 D _ hDi)
    exact dpa_app (dpa_fxN hN fx_upd (hfl _) (dpa_ex e4 da)) (.cons (dp_fxN hN fx_upd (hf i) hz) .nil)
end
end Z
namespace Z
open PySem PySem.Spec PyProof.Rows L2
local macro_rules | `(tactic| walk_at "look") => `(tactic| first | assumption | exact upd_same | exact SqL.of (by assumption) | exact SqT.of (by assumption) | exact SqL.of upd_same | exact SqT.of upd_same)
local macro_rules | `(tactic| walk_at "at") => `(tactic| first | exact at0 | exact at1 | exact at2 | exact at3 | exact ix0 | exact ix1 | assumption | exact atI_nat (by rfl))
local macro_rules | `(tactic| walk_at "sd") => `(tactic| ((try dsimp only); first | assumption | omega | (unfold CMul; omega) | (unfold CDiv; omega) | (unfold CPow; decide) | decide))
local macro_rules | `(tactic| walk_at "st") => `(tactic| first
  | (refine ⟨_, rfl, ?_⟩)
  | (refine ⟨_, _, rfl, rfl, ?_⟩)
  | (refine ⟨rfl, ?_⟩)
  | (refine .inl ⟨_, rfl, ?_⟩)
  | (refine ⟨_, _, _, _, rfl, rfl, (by walk_at "look"), (by walk_at "at"), ?_⟩)
  | (refine ⟨_, _, rfl, .inl (by walk_at "look"), ?_⟩)
  | (refine And.intro (by walk_at "sd") ?_)
  | fail "no step")
local macro_rules | `(tactic| walk_at "go") => `(tactic| repeat' (walk_at "st"))
local macro_rules | `(tactic| walk_at "ans") => `(tactic| (intro Q q; (repeat' (walk_at "st")); exact q))

/-! ### the mirrored rhyme, made -/
@[irreducible] def sp_law_mirrored (K : PySem.W.Frag) : Sp := fun ws H Q _ => ∃ (t : V) (vs : List Ve) (left : Int), ws = [t] ∧ Dp K H t (tD vs left) ∧ RhOk vs left ∧
  ∀ (p : Addr) (H' : Hp), H p = none → Ex H H' → RhAt K H' p (mirV vs) left → Q (.ref p) H'
def t_law_mirrored_1 (K : PySem.W.Frag) (E : XK) : TS := (tRet (tMake (He.ga K "Rhyme") (sp_Rhymeu_initu K) [] E0 (tCons (tCB (cTup K) (tCons (tVar 1) tNil)) (tCons (tOp (rIxT K) (tVar 0) (tC (.int 1))) tNil))))

def t_law_mirrored_0 (K : PySem.W.Frag) (E : XK) : TS := tSeq (tAsg (tLc (iTup K (tOp (rIxT K) (tVar 0) (tC (.int 0)))) (gTup K 2 (gCons (gName 2) (gCons (gName 3) gNil))) tYes (tTup (tCons (tIf (tTest (tOp rEq (tVar 2) (tC (.str "on")))) (tC (.str "back")) (tC (.str "on"))) (tCons (tVar 3) tNil))) [2, 3]) (gName 1)) (t_law_mirrored_1 K E)

theorem pure_law_mirrored {K : PySem.W.Frag} (ws : List V) (H : Hp) (Q : VK) (E : XK) (h : sp_law_mirrored K ws H Q E) : t_law_mirrored_0 K E { nx := fun _ H' => Q .non H', rt := Q } (start ["_law_t", "_law_verses", "_law_way", "_law_count"] ws) H := by
  unfold sp_law_mirrored at h
  obtain ⟨t, vs, left, rfl, hT, ok, k⟩ := h
  obtain ⟨a, v, rfl, hs, hv⟩ := tD_at hT
  obtain ⟨b, xs, rfl, hb, hall⟩ := dp_tup (id hv)
  have hl : xs.length = vs.length := by
    have := dpa_len hall
    rw [List.length_map] at this
    exact this
  have l4 := ok.l4
  show t_law_mirrored_0 K E _ [some (.ref a), none, none, none] H
  refine ⟨_, rfl, a, _, 0, _, rfl, rfl, hs, at0, b, rfl, ⟨xs, hb⟩, fun L hL => lc_data (K := K) walk_tup (fun i => ((mirV vs).map vD).getD i (vD (true, 0))) (fun i => ?_) hL (Nat.lt_of_le_of_lt (by omega : _ ≤ 4) (by decide)) (fun H3 e => sqt_ex e hb) ?_ ?_⟩
  · rw [List.getD_eq_getElem?_getD, List.getElem?_map]
    cases (mirV vs)[i]? <;> rfl
  · rintro i x H3 H4 hi e ⟨rfl, hx⟩ Q Zf q
    obtain ⟨ve, t, hve, rfl, ht⟩ := vs_at hall hx
    have ed : ((mirV vs).map vD).getD i (vD (true, 0)) = vD (!ve.1, ve.2) := by
      rw [List.getD_eq_getElem?_getD, List.getElem?_map]
      unfold mirV
      rw [List.getElem?_map, hve]
      rfl
    rw [ed] at q
    refine ⟨t, _, rfl, sqt_ex e ht, rfl, _, _, rfl, _, _, rfl, rfl, rfl, ?_⟩
    refine iteT (B := Zf H4) ?_
    have fin : ∀ z : V, z = .str (wayS (!ve.1)) → ∀ p, H4 p = none → Q (.ref p) (upd H4 p (.tup [z, .int ve.2])) := fun z ez p hp =>
      q _ _ (ex_new hp) (.tup (SqT.of upd_same) (by rw [ez]; exact .cons (.str _) (.cons (.int _) .nil)))
    refine ⟨_, rfl, rfl, _, rfl, ?_⟩
    rw [d_str]
    cases hb : ve.1 with
    | true =>
      rw [hb] at fin
      exact iteT ⟨_, rfl, (by show 2 ≤ sizeLine; decide), fin _ rfl⟩
    | false =>
      rw [hb] at fin
      exact iteF ⟨_, rfl, (by show 2 ≤ sizeLine; decide), fin _ rfl⟩
  · intro H3 acc e3 hL3 da
    have el : (List.range xs.length).map (fun i => ((mirV vs).map vD).getD i (vD (true, 0))) = (mirV vs).map vD := by
      refine List.ext_getElem? fun i => ?_
      by_cases hi : i < vs.length
      · have hi2 : i < ((mirV vs).map vD).length := by
          unfold mirV
          rw [List.length_map, List.length_map]
          exact hi
        rw [List.getElem?_map, List.getElem?_range (by omega), List.getElem?_eq_getElem hi2]
        show some (((mirV vs).map vD).getD i (vD (true, 0))) = _
        rw [List.getD_eq_getElem?_getD, List.getElem?_eq_getElem hi2]
        rfl
      · rw [List.getElem?_eq_none (by rw [List.length_map, List.length_range]; omega), List.getElem?_eq_none (by unfold mirV; rw [List.length_map, List.length_map]; omega)]
    rw [el] at da
    show t_law_mirrored_1 K E _ [some (.ref a), some (.ref L), none, none] H3
    refine ⟨_, rfl, L, _, rfl, .inl ⟨SqL.of hL3, fun l hl3 => ?_⟩⟩
    have e4 := ex_new (o := .tup acc) hl3
    have hw : Dp K (upd H3 l (.tup acc)) (.ref l) (vsD (mirV vs)) := .tup (SqT.of upd_same) (dpa_ex e4 da)
    refine ⟨_, rfl, a, _, 1, _, rfl, rfl, sqt_ex e4 (sqt_ex e3 hs), at1, fun p dp np nd ne => ?_⟩
    have e0 : Ex (upd H3 l (.tup acc)) (upd (upd (upd H3 l (.tup acc)) dp (.own p)) p (.ins (He.ga K "Rhyme") dp [])) := fun b o e => by
      rw [upd_ne (ne_of_none e np), upd_ne (ne_of_none e nd)]
      exact e
    have e34 := ex_trans e3 e4
    unfold sp_Rhymeu_initu
    exact ⟨p, dp, .ref l, mirV vs, left, rfl, upd_same, dp_ex e0 hw, mirV_ok ok, fun H' r f => ⟨rfl, k p H' (ex_free e34 np) (ex_trans e34 fun b o e => f b o (e0 b o e) (ne_of_none e np)) r⟩⟩

end Z
/-! Shorter ways: comprehensions over a list by its values, ==, max and min of two, a rhyme made. -/
namespace Z
open PySem PySem.Spec PyProof.Rows L2
theorem filter_places {α β : Type} (l : List α) (q : α → Bool) (f : α → β) (z : α) {n : Nat} (hn : n = l.length) : ((List.range n).filter (fun i => q (l.getD i z))).map (fun i => f (l.getD i z)) = (l.filter q).map f := by
  have e := map_range_get l (fun x => x) z hn
  rw [List.map_id'] at e
  have e2 : (l.filter q).map f = (((List.range n).map fun i => l.getD i z).filter q).map f := by rw [e]
  rw [e2, List.filter_map, List.map_map]
  rfl
theorem lc_over {K : PySem.W.Frag} {α : Type} (g : α → V) (z : α) (l : List α) (q : α → Bool) (f : α → V) {tt : TT} {te : TE} {j : Nat} {σ : L2.St} {H1 : Hp} {D p : Addr} {Qd : Hp → Prop} (hp : H1 p = some (.lst (l.map g))) (hD : H1 D = none) (hl : l.length < sizeLine)
    (hw : ∀ x : V, wipe ((wipe σ [j]).set j (some x)) [j] = wipe σ [j])
    (hs : ∀ c ∈ l, ∀ H, Ex H1 H → ∀ (Q : VK) (Zf : Hp → Prop), (q c = true → ∀ H4, Ex H H4 → Q (f c) H4) → (q c = false → ∀ H4, Ex H H4 → Zf H4) →
      tt ((wipe σ [j]).set j (some (g c))) H fun b H3 => if b = true then te ((wipe σ [j]).set j (some (g c))) H3 Q else Zf H3)
    (hd : ∀ H, Ex H1 H → H D = some (.lst ((l.filter q).map f)) → Qd H) :
    ∃ W : Nat → Nat → Hp → Prop, (∃ m, W 0 m (upd H1 D (.lst []))) ∧ ∀ i m H, W i m H →
      ((Itl K p).stop i H ∧ Qd H) ∨ ((Itl K p).go i H ∧ ∃ Nx : Hp → Prop, (∀ H', Nx H' → ∃ m', m' < m ∧ W (i + 1) m' H') ∧ ∀ x H', (Itl K p).yld i H x H' → gName j x (wipe σ [j]) H' fun σ2 H2 => wipe σ2 [j] = wipe σ [j] ∧ tt σ2 H2 fun b H3 =>
        if b = true then te σ2 H3 fun y H4 => ∃ acc, H4 D = some (.lst acc) ∧ acc.length < sizeLine ∧ Nx (upd H4 D (.lst (acc ++ [y]))) else Nx H3) := by
  have hll : (l.map g).length = l.length := List.length_map ..
  refine lc_pure walk_list (fun i => q (l.getD i z)) (fun i => f (l.getD i z)) hD (by rw [hll]; exact hl) (fun H3 e => SqL.of (e _ _ hp)) ?_ ?_
  · rintro i x H H' hi e ⟨rfl, hx⟩ Q Zf h1 h2
    rw [List.getElem?_map] at hx
    cases hy : l[i]? with
    | none =>
      rw [hy] at hx
      cases hx
    | some c =>
      rw [hy] at hx
      have ex : g c = x := Option.some.inj hx
      subst ex
      have ec : l.getD i z = c := by rw [List.getD_eq_getElem?_getD, hy]; rfl
      rw [ec] at h1 h2
      exact ⟨hw _, hs c (List.mem_of_getElem? hy) _ e Q Zf h1 h2⟩
  · intro H e h
    rw [filter_places l q f z hll] at h
    exact hd H e h
/-- without a test -/
theorem lc_each {K : PySem.W.Frag} {α : Type} (g : α → V) (z : α) (l : List α) (f : α → V) {te : TE} {j : Nat} {σ : L2.St} {H1 : Hp} {D p : Addr} {Qd : Hp → Prop} (hp : H1 p = some (.lst (l.map g))) (hD : H1 D = none) (hl : l.length < sizeLine)
    (hw : ∀ x : V, wipe ((wipe σ [j]).set j (some x)) [j] = wipe σ [j])
    (hs : ∀ c ∈ l, ∀ H, Ex H1 H → ∀ Q : VK, (∀ H4, Ex H H4 → Q (f c) H4) → te ((wipe σ [j]).set j (some (g c))) H Q)
    (hd : ∀ H, Ex H1 H → H D = some (.lst (l.map f)) → Qd H) :
    ∃ W : Nat → Nat → Hp → Prop, (∃ m, W 0 m (upd H1 D (.lst []))) ∧ ∀ i m H, W i m H →
      ((Itl K p).stop i H ∧ Qd H) ∨ ((Itl K p).go i H ∧ ∃ Nx : Hp → Prop, (∀ H', Nx H' → ∃ m', m' < m ∧ W (i + 1) m' H') ∧ ∀ x H', (Itl K p).yld i H x H' → gName j x (wipe σ [j]) H' fun σ2 H2 => wipe σ2 [j] = wipe σ [j] ∧ tYes σ2 H2 fun b H3 =>
        if b = true then te σ2 H3 fun y H4 => ∃ acc, H4 D = some (.lst acc) ∧ acc.length < sizeLine ∧ Nx (upd H4 D (.lst (acc ++ [y]))) else Nx H3) :=
  lc_over g z l (fun _ => true) f hp hD hl hw (fun c hc H e Q Zf h1 _ => iteT (B := Zf H) (hs c hc H e Q (h1 rfl))) (fun H e h => hd H e (by rw [filter_all] at h; exact h))
section
variable {K : PySem.W.Frag} {H : Hp} {Q : VK} {p q : Addr}
theorem eq_ints {a b : List Int} (hp : H p = some (.lst (a.map V.int))) (hq : H q = some (.lst (b.map V.int))) (k : Q (.bl (decide (a = b))) H) : rEqD K (.ref p) (.ref q) H Q := by
  refine ⟨dInts a, dInts b, dInts_at hp, dInts_at hq, shaped_ints a, shaped_ints b, ?_⟩
  have : PyData.eqv (dInts a) (dInts b) = decide (a = b) := eqvAll_ints a b
  rw [this]
  exact k
theorem max_go {x y : Int} (hp : H p = some (.lst [.int x, .int y])) (k : Q (.int (max x y)) H) : rMax K [.ref p] H Q := by
  refine ⟨p, [x, y], rfl, SqL.of hp, (by show 0 < 2; decide), fun m hm hle => ?_⟩
  have a1 := hle x List.mem_cons_self
  have a2 := hle y (List.mem_cons_of_mem _ List.mem_cons_self)
  have e : m = max x y := by
    rcases List.mem_cons.mp hm with e | e
    · rw [Int.max_def]; split <;> omega
    · have := List.mem_singleton.mp e
      rw [Int.max_def]; split <;> omega
  rw [e]
  exact k
theorem min_go {x y : Int} (hp : H p = some (.lst [.int x, .int y])) (k : Q (.int (min x y)) H) : rMin K [.ref p] H Q := by
  refine ⟨p, [x, y], rfl, SqL.of hp, (by show 0 < 2; decide), fun m hm hle => ?_⟩
  have a1 := hle x List.mem_cons_self
  have a2 := hle y (List.mem_cons_of_mem _ List.mem_cons_self)
  have e : m = min x y := by
    rcases List.mem_cons.mp hm with e | e
    · rw [Int.min_def]; split <;> omega
    · have := List.mem_singleton.mp e
      rw [Int.min_def]; split <;> omega
  rw [e]
  exact k
/-- a rhyme made of data that is right -/
theorem make_go {R : Addr → Hp → Prop} {v : V} {vs : List Ve} {left : Int} {E : XK} (hv : Dp K H v (vsD vs)) (ok : RhOk vs left) (k : ∀ (p : Addr) (H' : Hp), H p = none → Ex H H' → RhAt K H' p vs left → R p H') :
    ∀ x dx, H x = none → H dx = none → dx ≠ x → sp_Rhymeu_initu K (.ref x :: ([v, .int left] ++ [])) (upd (upd H dx (.own x)) x (.ins (He.ga K "Rhyme") dx [])) (fun w H2 => w = .non ∧ R x H2) E := by
  intro x dx nx nd ne
  have e0 : Ex H (upd (upd H dx (.own x)) x (.ins (He.ga K "Rhyme") dx [])) := fun b o e => by
    rw [upd_ne (ne_of_none e nx), upd_ne (ne_of_none e nd)]
    exact e
  unfold sp_Rhymeu_initu
  exact ⟨x, dx, v, vs, left, rfl, upd_same, dp_ex e0 hv, ok, fun H' r f => ⟨rfl, k x H' nx (fun b o e => f b o (e0 b o e) (ne_of_none e nx)) r⟩⟩
end
/-- the ints from a on, m of them -/
def rgL (a : Int) (m : Nat) : List Int := (List.range m).map fun (i : Nat) => a + (i : Int)
theorem rgV_rgL (a b : Int) : rgV a b = (rgL a (b - a).toNat).map V.int := by
  unfold rgV rgL
  rw [List.map_map]
  rfl
theorem rgL_len (a : Int) (m : Nat) : (rgL a m).length = m := by unfold rgL; rw [List.length_map, List.length_range]
theorem rgL_mem {a c : Int} {m : Nat} (h : c ∈ rgL a m) : a ≤ c ∧ c < a + (m : Int) := by
  obtain ⟨i, hi, rfl⟩ := List.mem_map.mp h
  have := List.mem_range.mp hi
  omega
theorem rgL_asc (a : Int) (m : Nat) : (rgL a m).Pairwise (· < ·) := by
  unfold rgL
  exact List.pairwise_map.mpr (List.pairwise_lt_range.imp fun h => by omega)
theorem asc_nodup {l : List Int} (h : l.Pairwise (· < ·)) : l.Nodup := h.imp fun {a b} h => Int.ne_of_lt h
theorem nodup_sub : ∀ {l r : List Int}, l.Nodup → (∀ c ∈ l, c ∈ r) → l.length ≤ r.length
  | [], _, _, _ => Nat.zero_le _
  | x :: l, r, nd, h => by
    have hx := h x List.mem_cons_self
    obtain ⟨n1, n2⟩ := List.nodup_cons.mp nd
    have := nodup_sub (l := l) (r := r.erase x) n2 fun c hc => by
      have hne : c ≠ x := fun z => n1 (by rw [← z]; exact hc)
      exact (List.mem_erase_of_ne hne).mpr (h c (List.mem_cons_of_mem _ hc))
    have hr : 0 < r.length := List.length_pos_of_mem hx
    rw [List.length_erase_of_mem hx] at this
    show l.length + 1 ≤ r.length
    omega
theorem fm_isSome {α β : Type} (f : α → Option β) : ∀ l : List α, ((l.map f).filter Option.isSome) = (l.filterMap f).map some
  | [] => rfl
  | x :: l => by
    have ih := fm_isSome f l
    rw [List.map_cons]
    cases h : f x with
    | none =>
      rw [List.filter_cons_of_neg (by exact Bool.false_ne_true), List.filterMap_cons_none h]
      exact ih
    | some y =>
      rw [List.filter_cons_of_pos rfl, List.filterMap_cons_some h, List.map_cons, ih]
theorem fm_len {α β : Type} (f : α → Option β) : ∀ l : List α, (l.filterMap f).length + (l.filter fun x => (f x).isNone).length = l.length
  | [] => rfl
  | x :: l => by
    have ih := fm_len f l
    cases h : f x with
    | none =>
      rw [List.filterMap_cons_none h, List.filter_cons_of_pos (by rw [h]; rfl), List.length_cons, List.length_cons]
      omega
    | some y =>
      rw [List.filterMap_cons_some h, List.filter_cons_of_neg (by rw [h]; exact Bool.false_ne_true), List.length_cons, List.length_cons]
      omega
theorem fm_back {α β : Type} (f : α → Option β) (g : β → α) : ∀ l : List α, (∀ x ∈ l, ∀ y, f x = some y → g y = x) → (l.filterMap f).map g = l.filter fun x => (f x).isSome
  | [], _ => rfl
  | x :: l, h => by
    have ih := fm_back f g l fun x hx => h x (List.mem_cons_of_mem _ hx)
    cases hf : f x with
    | none => rw [List.filterMap_cons_none hf, List.filter_cons_of_neg (by rw [hf]; exact Bool.false_ne_true), ih]
    | some y => rw [List.filterMap_cons_some hf, List.filter_cons_of_pos (by rw [hf]; rfl), List.map_cons, ih, h x List.mem_cons_self y hf]
/-! ### when, over a row of children -/
section
variable {vs : List Ve} {left n : Int} {row : List Int}
theorem known_back (ok : RhOk vs left) (h : left ≤ n) (hr : ∀ c ∈ row, 0 ≤ c ∧ c < n) : (row.filterMap (whenF vs left n)).map (Rh.goneF (rises vs) n) = row.filter fun c => (whenF vs left n c).isSome :=
  fm_back _ _ _ fun c hc t ht => ((when_go ok h (hr c hc).1 (by have := hr c hc; omega)).1 t ht).2.2
theorem known_bd (ok : RhOk vs left) (h : left ≤ n) (hr : ∀ c ∈ row, 0 ≤ c ∧ c < n) : ∀ t ∈ row.filterMap (whenF vs left n), 1 ≤ t ∧ t ≤ n - left := by
  intro t ht
  obtain ⟨c, hc, e⟩ := List.mem_filterMap.mp ht
  have := (when_go ok h (hr c hc).1 (by have := hr c hc; omega)).1 t e
  exact ⟨this.1, this.2.1⟩
theorem known_nodup (ok : RhOk vs left) (h : left ≤ n) (hr : ∀ c ∈ row, 0 ≤ c ∧ c < n) (nd : row.Nodup) : (row.filterMap (whenF vs left n)).Nodup := by
  have e := known_back ok h hr
  have n2 : ((row.filterMap (whenF vs left n)).map (Rh.goneF (rises vs) n)).Nodup := by
    rw [e]
    exact nd.filter _
  exact (List.pairwise_map.mp n2).imp fun {a b} hab z => hab (by rw [z])
theorem known_len (ok : RhOk vs left) (h : left ≤ n) (hr : ∀ c ∈ row, 0 ≤ c ∧ c < n) (nd : row.Nodup) : (row.length : Int) - ((row.filterMap (whenF vs left n)).length : Int) ≤ left := by
  have e := fm_len (whenF vs left n) row
  have l1 := nodup_sub (l := row.filter fun c => (whenF vs left n c).isNone) (r := keptL vs left n) (nd.filter _) fun c hc => by
    obtain ⟨h1, h2⟩ := List.mem_filter.mp hc
    have b := hr c h1
    rw [when_kept ok h b.1 (by omega)] at h2
    exact List.contains_iff_mem.mp h2
  have l2 := kept_len (n := n) ok h
  omega
end
theorem opt_some (o : Option Int) : (!decide (oV o = .non)) = o.isSome := by
  rw [oV_none]
  cases o <;> rfl
/-- the state between two questions -/
structure S2 (K : PySem.W.Frag) (H : Hp) (d : Addr) (t : V) (a : Addr) (vs : List Ve) (l : Int) : Prop where
  hD : DSt H d
  hT : Dp K H t (tD vs l)
  hR : RhAt K H a vs l
  na : a ≠ d
section
variable {K : PySem.W.Frag} {H H' : Hp} {d a : Addr} {t : V} {vs : List Ve} {l : Int}
theorem S2.ex (s : S2 K H d t a vs l) (e : Ex H H') : S2 K H' d t a vs l := ⟨dst_ex e s.hD, dp_ex e s.hT, rh_ex e s.hR, s.na⟩
theorem S2.fx (s : S2 K H d t a vs l) (f : Fx d H H') (hD : DSt H' d) : S2 K H' d t a vs l :=
  ⟨hD, dp_fxN (dst_noT s.hD) f (tD_flat vs l) s.hT, rh_fx (dst_noT s.hD) s.na f s.hR, s.na⟩
end
end Z
/-! Runs of the heir: plain law. -/
namespace Rh
theorem lift_perk (R : List Int) (c n : Int) : ∀ (k : Nat) (s p : Int), lift R (n + c * (R.length : Int)) k s p = lift R n k s p
  | 0, _, _ => rfl
  | k + 1, s, p => by
    rw [lift_succ, lift_succ, lift_perk R c n k]
    have e : n + c * (R.length : Int) - s - 1 = n - s - 1 + c * (R.length : Int) := by omega
    rw [e, rI_perk']
/-- by the list of the rises -/
def liftL : List Int → Int → Int → Int
  | [], _, p => p
  | r :: l, s, p => liftL l (s + 1) ((p + r) % (s + 1))
theorem lift_liftL (R : List Int) (n : Int) : ∀ (k : Nat) (s p : Int), lift R n k s p = liftL (rrow R (n - s - 1) k) s p
  | 0, _, _ => rfl
  | k + 1, s, p => by
    rw [lift_succ, lift_liftL R n k]
    have e : n - (s + 1) - 1 = n - s - 1 - 1 := by omega
    rw [e]
    rfl
/-- one step: on, or round -/
theorem wrap1 {s p r : Int} (hs : 60 ≤ s) (h0 : 0 ≤ p) (h1 : p < s) (hr : -5 ≤ r ∧ r ≤ 6) :
    ((p + r) % (s + 1) = p + r ∧ 0 ≤ p + r ∧ p + r ≤ s) ∨ ((p + r) % (s + 1) = p + r + (s + 1) ∧ p + r < 0) ∨ ((p + r) % (s + 1) = p + r - (s + 1) ∧ s < p + r) := by
  by_cases a : p + r < 0
  · refine .inr (.inl ⟨?_, a⟩)
    rw [← Int.add_emod_right]
    exact Int.emod_eq_of_lt (by omega) (by omega)
  · by_cases b : s < p + r
    · refine .inr (.inr ⟨?_, b⟩)
      rw [← Int.sub_emod_right]
      exact Int.emod_eq_of_lt (by omega) (by omega)
    · exact .inl ⟨Int.emod_eq_of_lt (by omega) (by omega), by omega, by omega⟩
end Rh
namespace Z
open PySem PySem.Spec PyProof.Rows L2
/-- straight through the rhyme, by the sums told one by one -/
theorem up_of {p s : Int} {row : List Int} (h : ∀ i : Nat, i < row.length → 0 ≤ p + (row.take (i + 1)).sum ∧ p + (row.take (i + 1)).sum ≤ s + (i : Int)) : Rh.Up p s (sumsL row) 0 := by
  intro i hi
  rw [sumsL_len] at hi
  have e : (sumsL row).getD i 0 = (row.take (i + 1)).sum := by
    unfold sumsL
    rw [List.getD_eq_getElem?_getD, List.getElem?_map, List.getElem?_range hi]
    rfl
  rw [e, Int.zero_mul, Int.zero_mul]
  have := h i hi
  omega
/-- among many a whole rhyme that is straight in sum is straight throughout -/
theorem wrap_up {s p : Int} (hs : 64 ≤ s) (h0 : 0 ≤ p) (h1 : p < s) : ∀ row : List Int, row.length ≤ 4 → (∀ r ∈ row, -5 ≤ r ∧ r ≤ 6) → Rh.liftL row s p = p + row.sum → Rh.Up p s (sumsL row) 0
  | [], _, _, _ => up_of fun i hi => absurd hi (by simp)
  | [x], _, hr, h => by
    have hx := hr x (by simp)
    have h : (p + x) % (s + 1) = p + [x].sum := h
    simp only [List.sum_cons, List.sum_nil] at h
    refine up_of fun i hi => ?_
    match i, hi with
    | 0, _ =>
      simp only [List.take, List.sum_cons, List.sum_nil]
      rcases Rh.wrap1 (by omega) h0 h1 hx with w | w | w <;> omega
    | i + 1, hi => exact absurd hi (by simp)
  | [x, y], _, hr, h => by
    have hx := hr x (by simp)
    have hy := hr y (by simp)
    have h : ((p + x) % (s + 1) + y) % (s + 1 + 1) = p + [x, y].sum := h
    simp only [List.sum_cons, List.sum_nil] at h
    have b0 := Int.emod_nonneg (p + x) (show s + 1 ≠ 0 by omega)
    have b1 := Int.emod_lt_of_pos (p + x) (show 0 < s + 1 by omega)
    have w1 := Rh.wrap1 (by omega) h0 h1 hx
    have w2 := Rh.wrap1 (s := s + 1) (by omega) b0 b1 hy
    generalize (p + x) % (s + 1) = q1 at *
    generalize (q1 + y) % (s + 1 + 1) = q2 at *
    refine up_of fun i hi => ?_
    match i, hi with
    | 0, _ =>
      simp only [List.take, List.sum_cons, List.sum_nil]
      rcases w1 with w1 | w1 | w1 <;> rcases w2 with w2 | w2 | w2 <;> omega
    | 1, _ =>
      simp only [List.take, List.sum_cons, List.sum_nil]
      rcases w1 with w1 | w1 | w1 <;> rcases w2 with w2 | w2 | w2 <;> omega
    | i + 2, hi => exact absurd hi (by simp)
  | [x, y, z], _, hr, h => by
    have hx := hr x (by simp)
    have hy := hr y (by simp)
    have hz := hr z (by simp)
    have h : (((p + x) % (s + 1) + y) % (s + 1 + 1) + z) % (s + 1 + 1 + 1) = p + [x, y, z].sum := h
    simp only [List.sum_cons, List.sum_nil] at h
    have b0 := Int.emod_nonneg (p + x) (show s + 1 ≠ 0 by omega)
    have b1 := Int.emod_lt_of_pos (p + x) (show 0 < s + 1 by omega)
    have w1 := Rh.wrap1 (by omega) h0 h1 hx
    have w2 := Rh.wrap1 (s := s + 1) (by omega) b0 b1 hy
    have c0 := Int.emod_nonneg ((p + x) % (s + 1) + y) (show s + 1 + 1 ≠ 0 by omega)
    have c1 := Int.emod_lt_of_pos ((p + x) % (s + 1) + y) (show 0 < s + 1 + 1 by omega)
    have w3 := Rh.wrap1 (s := s + 1 + 1) (by omega) c0 c1 hz
    generalize (p + x) % (s + 1) = q1 at *
    generalize (q1 + y) % (s + 1 + 1) = q2 at *
    generalize (q2 + z) % (s + 1 + 1 + 1) = q3 at *
    have key : 0 ≤ p + x ∧ p + x ≤ s ∧ 0 ≤ p + x + y ∧ p + x + y ≤ s + 1 ∧ 0 ≤ p + x + y + z ∧ p + x + y + z ≤ s + 2 := by
      rcases w1 with w1 | w1 | w1 <;> rcases w2 with w2 | w2 | w2 <;> rcases w3 with w3 | w3 | w3 <;> omega
    refine up_of fun i hi => ?_
    match i, hi with
    | 0, _ => simp only [List.take, List.sum_cons, List.sum_nil]; omega
    | 1, _ => simp only [List.take, List.sum_cons, List.sum_nil]; omega
    | 2, _ => simp only [List.take, List.sum_cons, List.sum_nil]; omega
    | i + 3, hi => exact absurd hi (by simp)
  | [x, y, z, v], _, hr, h => by
    have hx := hr x (by simp)
    have hy := hr y (by simp)
    have hz := hr z (by simp)
    have hv := hr v (by simp)
    have h : ((((p + x) % (s + 1) + y) % (s + 1 + 1) + z) % (s + 1 + 1 + 1) + v) % (s + 1 + 1 + 1 + 1) = p + [x, y, z, v].sum := h
    simp only [List.sum_cons, List.sum_nil] at h
    have b0 := Int.emod_nonneg (p + x) (show s + 1 ≠ 0 by omega)
    have b1 := Int.emod_lt_of_pos (p + x) (show 0 < s + 1 by omega)
    have w1 := Rh.wrap1 (by omega) h0 h1 hx
    have w2 := Rh.wrap1 (s := s + 1) (by omega) b0 b1 hy
    have c0 := Int.emod_nonneg ((p + x) % (s + 1) + y) (show s + 1 + 1 ≠ 0 by omega)
    have c1 := Int.emod_lt_of_pos ((p + x) % (s + 1) + y) (show 0 < s + 1 + 1 by omega)
    have w3 := Rh.wrap1 (s := s + 1 + 1) (by omega) c0 c1 hz
    have d0 := Int.emod_nonneg (((p + x) % (s + 1) + y) % (s + 1 + 1) + z) (show s + 1 + 1 + 1 ≠ 0 by omega)
    have d1 := Int.emod_lt_of_pos (((p + x) % (s + 1) + y) % (s + 1 + 1) + z) (show 0 < s + 1 + 1 + 1 by omega)
    have w4 := Rh.wrap1 (s := s + 1 + 1 + 1) (by omega) d0 d1 hv
    generalize (p + x) % (s + 1) = q1 at *
    generalize (q1 + y) % (s + 1 + 1) = q2 at *
    generalize (q2 + z) % (s + 1 + 1 + 1) = q3 at *
    generalize (q3 + v) % (s + 1 + 1 + 1 + 1) = q4 at *
    have key : 0 ≤ p + x ∧ p + x ≤ s ∧ 0 ≤ p + x + y ∧ p + x + y ≤ s + 1 ∧ 0 ≤ p + x + y + z ∧ p + x + y + z ≤ s + 2 ∧ 0 ≤ p + x + y + z + v ∧ p + x + y + z + v ≤ s + 3 := by
      rcases w1 with w1 | w1 | w1 <;> rcases w2 with w2 | w2 | w2 <;> rcases w3 with w3 | w3 | w3 <;> rcases w4 with w4 | w4 | w4 <;> omega
    refine up_of fun i hi => ?_
    match i, hi with
    | 0, _ => simp only [List.take, List.sum_cons, List.sum_nil]; omega
    | 1, _ => simp only [List.take, List.sum_cons, List.sum_nil]; omega
    | 2, _ => simp only [List.take, List.sum_cons, List.sum_nil]; omega
    | 3, _ => simp only [List.take, List.sum_cons, List.sum_nil]; omega
    | i + 4, hi => exact absurd hi (by simp)
  | _ :: _ :: _ :: _ :: _ :: _, hl, _, _ => absurd hl (by simp)
/-! ### a place that stays beside the singer is not straight -/
theorem stays_le : ∀ (l : List Int) (b : Int), Rh.stays l b ≤ b + l.sum ∧ b + l.sum - (l.length : Int) ≤ Rh.stays l b
  | [], b => by simp [Rh.stays]
  | r :: l, b => by
    have h := stays_le l (Rh.st1 b r)
    have e : Rh.stays (r :: l) b = Rh.stays l (Rh.st1 b r) := rfl
    have h2 : b + r - 1 ≤ Rh.st1 b r ∧ Rh.st1 b r ≤ b + r := by
      unfold Rh.st1; split <;> omega
    rw [e, List.sum_cons, List.length_cons]
    omega
theorem st1_or (b r : Int) : (b < 0 ∧ Rh.st1 b r = b + r - 1) ∨ (0 ≤ b ∧ Rh.st1 b r = b + r) := by
  unfold Rh.st1
  split <;> omega
theorem stays_none : ∀ (l : List Int) (b : Int), Rh.stays l b = b + l.sum → ∀ i : Nat, i < l.length → 0 ≤ b + (l.take i).sum
  | [], _, _, _, hi => absurd hi (by simp)
  | r :: l, b, h, i, hi => by
    have h1 := stays_le l (Rh.st1 b r)
    have e : Rh.stays (r :: l) b = Rh.stays l (Rh.st1 b r) := rfl
    rw [e, List.sum_cons] at h
    have h2 : Rh.st1 b r = b + r ∧ 0 ≤ b := by
      have := st1_or b r
      omega
    match i, hi with
    | 0, _ =>
      rw [List.take_zero, List.sum_nil]
      omega
    | i + 1, hi =>
      rw [h2.1] at h
      have := stays_none l (b + r) (by omega) i (by simpa using hi)
      rw [List.take_succ_cons, List.sum_cons]
      omega
theorem stays_all : ∀ (l : List Int) (b : Int), Rh.stays l b = b + l.sum - (l.length : Int) → ∀ i : Nat, i < l.length → b + (l.take i).sum - (i : Int) < 0
  | [], _, _, _, hi => absurd hi (by simp)
  | r :: l, b, h, i, hi => by
    have h1 := stays_le l (Rh.st1 b r)
    have e : Rh.stays (r :: l) b = Rh.stays l (Rh.st1 b r) := rfl
    rw [e, List.sum_cons, List.length_cons] at h
    have h2 : Rh.st1 b r = b + r - 1 ∧ b < 0 := by
      have := st1_or b r
      omega
    match i, hi with
    | 0, _ =>
      rw [List.take_zero, List.sum_nil]
      omega
    | i + 1, hi =>
      rw [h2.1] at h
      have := stays_all l (b + r - 1) (by omega) i (by simpa using hi)
      rw [List.take_succ_cons, List.sum_cons]
      omega
theorem take_bd {row : List Int} (hr : ∀ r ∈ row, -5 ≤ r ∧ r ≤ 6) : ∀ i : Nat, -5 * (i : Int) ≤ (row.take i).sum ∧ (row.take i).sum ≤ 6 * (i : Int) := by
  intro i
  induction row generalizing i with
  | nil => simp; omega
  | cons x l ih =>
    match i with
    | 0 => simp
    | i + 1 =>
      have hx := hr x List.mem_cons_self
      have := ih (fun r h => hr r (List.mem_cons_of_mem _ h)) i
      rw [List.take_succ_cons, List.sum_cons]
      omega
/-- it stays, and it did not go straight: then the sum of the rises is not what the place gains -/
theorem stay_not {s p b : Int} {row : List Int} (hl : row.length ≤ 4) (hr : ∀ r ∈ row, -5 ≤ r ∧ r ≤ 6) (hs : 64 < s) (hb : -26 ≤ b ∧ b ≤ 26) (hp : Rh.pl s b = p) (hst : Rh.stays row b = b) (hn : ¬ Rh.Up p s (sumsL row) 0) : row.sum ≠ if b < 0 then (row.length : Int) else 0 := by
  intro h
  apply hn
  unfold Rh.pl at hp
  have hb4 : ∀ i : Nat, i < row.length → (i : Int) < 4 := fun i hi => by omega
  by_cases c : b < 0
  · rw [if_pos c] at h hp
    have ha := stays_all row b (by omega)
    refine up_of fun i hi => ?_
    have tb := take_bd hr (i + 1)
    have := hb4 i hi
    by_cases ci : i + 1 < row.length
    · have := ha (i + 1) ci
      omega
    · have e : row.take (i + 1) = row := List.take_of_length_le (by omega)
      rw [e] at tb ⊢
      omega
  · rw [if_neg c] at h hp
    have ha := stays_none row b (by omega)
    refine up_of fun i hi => ?_
    have tb := take_bd hr (i + 1)
    have := hb4 i hi
    by_cases ci : i + 1 < row.length
    · have := ha (i + 1) ci
      omega
    · have e : row.take (i + 1) = row := List.take_of_length_le (by omega)
      rw [e] at tb ⊢
      omega
/-! ### the run -/
section
variable {vs : List Ve} {left s n : Int}
/-- the rises by which a place comes up through a whole rhyme -/
abbrev row0 (vs : List Ve) : List Int := Rh.rrow (rises vs) ((vs.length : Int) - 1) vs.length
theorem row0_len (vs : List Ve) : (row0 vs).length = vs.length := rrow_len _ _ _
theorem rrow_mem {R : List Int} {a : Int} {j : Nat} {r : Int} (h : r ∈ Rh.rrow R a j) : ∃ i, r = Rh.rI R i := by
  rw [rrow_map] at h
  obtain ⟨i, _, rfl⟩ := List.mem_map.mp h
  exact ⟨_, rfl⟩
theorem row0_bd (ok : RhOk vs left) : ∀ r ∈ row0 vs, -5 ≤ r ∧ r ≤ 6 := fun r h => by
  obtain ⟨i, rfl⟩ := rrow_mem h
  exact rise_bd ok i
theorem rI_nat {R : List Int} {i : Nat} (h : i < R.length) : Rh.rI R (i : Int) = R.getD i 0 := by
  unfold Rh.rI
  congr 1
  have e : (i : Int) % (R.length : Int) = (i : Int) := Int.emod_eq_of_lt (by omega) (by omega)
  rw [e]
  omega
theorem sum_rrow (R : List Int) : ∀ j : Nat, j ≤ R.length → (Rh.rrow R ((j : Int) - 1) j).sum = (R.take j).sum
  | 0, _ => rfl
  | j + 1, h => by
    have e1 : ((j + 1 : Nat) : Int) - 1 = (j : Int) := by omega
    rw [e1]
    show (Rh.rI R (j : Int) :: Rh.rrow R ((j : Int) - 1) j).sum = _
    rw [List.sum_cons, sum_rrow R j (by omega), rI_nat (by omega)]
    have h2 : R[j]? = some (R.getD j 0) := by
      rw [List.getD_eq_getElem?_getD, List.getElem?_eq_getElem (by omega)]
      rfl
    rw [take_sum h2]
    omega
theorem row0_sum (vs : List Ve) : (row0 vs).sum = (rises vs).sum := by
  have h := sum_rrow (rises vs) vs.length (by rw [rises_len]; exact Nat.le_refl _)
  rw [h, List.take_of_length_le (by rw [rises_len]; exact Nat.le_refl _)]
theorem heir_on (ok : RhOk vs left) (h : left ≤ s) (k : Nat) : heirF vs left (s + (k : Int) * (vs.length : Int)) = Rh.lift (rises vs) (s + (k : Int) * (vs.length : Int)) (k * vs.length) s (heirF vs left s) := by
  unfold heirF
  have ec : ((k * vs.length : Nat) : Int) = (k : Int) * (vs.length : Int) := Int.natCast_mul ..
  have e : (s + (k : Int) * (vs.length : Int) - left).toNat = (s - left).toNat + k * vs.length := by omega
  have e2 : left + ((s - left).toNat : Int) = s := by omega
  have e3 : (vs.length : Int) = ((rises vs).length : Int) := by rw [rises_len]
  rw [e, Rh.lift_add, e2]
  congr 1
  rw [e3, Rh.lift_perk]
theorem heir_next (ok : RhOk vs left) (h : left ≤ s) : heirF vs left (s + (vs.length : Int)) = Rh.lift (rises vs) (s + (vs.length : Int)) vs.length s (heirF vs left s) := by
  have := heir_on ok h 1
  rw [Nat.one_mul] at this
  have e : s + ((1 : Nat) : Int) * (vs.length : Int) = s + (vs.length : Int) := by omega
  rw [e] at this
  exact this
theorem heir_row (ok : RhOk vs left) (h : left ≤ s) : heirF vs left (s + (vs.length : Int)) = Rh.liftL (row0 vs) s (heirF vs left s) := by
  rw [heir_next ok h, Rh.lift_liftL]
  have e : s + (vs.length : Int) - s - 1 = (vs.length : Int) - 1 := by omega
  rw [e]
theorem heir_bd (ok : RhOk vs left) (h : left ≤ s) : 0 ≤ heirF vs left s ∧ heirF vs left s < s := by
  have lf := ok.lf
  have := Rh.lift_bd (rises vs) s (s - left).toNat left 0 (by omega) (by omega)
  unfold heirF
  omega
/-- from s to the next number the heir goes straight -/
def Strt (vs : List Ve) (left s : Int) : Prop := heirF vs left (s + (vs.length : Int)) = heirF vs left s + (rises vs).sum
/-- through the rhyme from s on -/
abbrev Up0 (vs : List Ve) (left s : Int) (c : Int) : Prop := Rh.Up (heirF vs left s) s (sumsL (row0 vs)) c
theorem last_sum (ok : RhOk vs left) : (sumsL (row0 vs)).getD ((sumsL (row0 vs)).length - 1) 0 = (rises vs).sum := by
  have l1 := ok.l1
  rw [rsums_len]
  unfold sumsL
  rw [List.getD_eq_getElem?_getD, List.getElem?_map, List.getElem?_range (by rw [row0_len]; omega)]
  show ((row0 vs).take (vs.length - 1 + 1)).sum = _
  rw [List.take_of_length_le (by rw [row0_len]; omega), row0_sum]
theorem up_str (ok : RhOk vs left) (h : left ≤ s) (u : Up0 vs left s 0) : Strt vs left s := by
  have l1 := ok.l1
  unfold Strt
  have e : s + (vs.length : Int) - s - 1 = (vs.length : Int) - 1 := by omega
  have hT : Rh.psum (rises vs) ((vs.length : Int) - 1) vs.length = (rises vs).sum := by
    rw [← rrow_take (rises vs) _ vs.length vs.length (Nat.le_refl _), List.take_of_length_le (by rw [rrow_len]; exact Nat.le_refl _)]
    exact row0_sum vs
  rw [heir_next ok h, Rh.lift_straight]
  · rw [e, hT]
  · intro i hi
    rw [e]
    have := up_get l1 u i hi
    omega
theorem str_up (ok : RhOk vs left) (h : left ≤ s) (h64 : 64 ≤ s) (u : Strt vs left s) : Up0 vs left s 0 := by
  obtain ⟨b0, b1⟩ := heir_bd ok h
  refine wrap_up h64 b0 b1 (row0 vs) (by rw [row0_len]; exact ok.l4) (row0_bd ok) ?_
  rw [← heir_row ok h, row0_sum]
  exact u
/-- the c-th rhyme from s on is the first one from there on -/
theorem up_shift (ok : RhOk vs left) {p c : Int} : Rh.Up p s (sumsL (row0 vs)) c ↔ Rh.Up (p + c * (rises vs).sum) (s + c * (vs.length : Int)) (sumsL (row0 vs)) 0 := by
  unfold Rh.Up
  rw [last_sum ok, rsums_len]
  refine forall_congr' fun i => imp_congr_right fun _ => ?_
  rw [Int.zero_mul, Int.zero_mul]
  exact ⟨fun h => by omega, fun h => by omega⟩
/-- straight over L rhymes -/
theorem leap_str (ok : RhOk vs left) (h : left ≤ s) : ∀ L : Nat, (∀ c : Int, 0 ≤ c → c < (L : Int) → Up0 vs left s c) →
    heirF vs left (s + (L : Int) * (vs.length : Int)) = heirF vs left s + (L : Int) * (rises vs).sum ∧ ∀ c : Nat, c < L → Strt vs left (s + (c : Int) * (vs.length : Int))
  | 0, _ => by
    refine ⟨?_, fun c hc => absurd hc (by omega)⟩
    have e : s + ((0 : Nat) : Int) * (vs.length : Int) = s := by simp
    rw [e]
    simp
  | L + 1, hu => by
    obtain ⟨h1, h2⟩ := leap_str ok h L fun c c0 c1 => hu c c0 (by omega)
    have hm : 0 ≤ (L : Int) * (vs.length : Int) := Int.mul_nonneg (by omega) (by omega)
    have u := (up_shift ok).mp (hu (L : Int) (by omega) (by omega))
    rw [← h1] at u
    have st := up_str ok (by omega) u
    refine ⟨?_, fun c hc => ?_⟩
    · have st := id st
      unfold Strt at st
      have e : s + ((L + 1 : Nat) : Int) * (vs.length : Int) = s + (L : Int) * (vs.length : Int) + (vs.length : Int) := by
        rw [Int.natCast_add, Int.add_mul]; simp; omega
      have e2 : ((L + 1 : Nat) : Int) * (rises vs).sum = (L : Int) * (rises vs).sum + (rises vs).sum := by
        rw [Int.natCast_add, Int.add_mul]; simp
      rw [e, st, h1, e2]
      omega
    · by_cases hc2 : c < L
      · exact h2 c hc2
      · have e : c = L := by omega
        rw [e]
        exact st
/-- a place that stays beside the singer, not straight: nowhere straight from there on -/
theorem stay_str (ok : RhOk vs left) (h : left ≤ s) (h64 : 64 < s) {b : Int} (hb : -26 ≤ b ∧ b ≤ 26) (hp : Rh.pl s b = heirF vs left s) (hst : Rh.stays (row0 vs) b = b) (hn : ¬ Up0 vs left s 0) (c : Nat) :
    heirF vs left (s + (c : Int) * (vs.length : Int)) = Rh.pl (s + (c : Int) * (vs.length : Int)) b ∧ ¬ Strt vs left (s + (c : Int) * (vs.length : Int)) := by
  have l1 := ok.l1
  have step : ∀ c : Nat, heirF vs left (s + (c : Int) * (vs.length : Int)) = Rh.pl (s + (c : Int) * (vs.length : Int)) b := fun c => by
    rw [heir_on ok h c, ← hp]
    refine Rh.lift_stay (rises vs) _ s b vs.length (rises_len vs).symm ok.l4 (rise_bd ok) (by omega) hb ?_ c
    have e : s + (c : Int) * (vs.length : Int) - s - 1 = (vs.length : Int) - 1 - (1 - (c : Int)) * ((rises vs).length : Int) := by
      rw [rises_len, Int.sub_mul]
      omega
    rw [e, Rh.rrow_per]
    exact hst
  refine ⟨step c, fun st => ?_⟩
  unfold Strt at st
  have e : s + (c : Int) * (vs.length : Int) + (vs.length : Int) = s + ((c + 1 : Nat) : Int) * (vs.length : Int) := by
    rw [Int.natCast_add, Int.add_mul]; simp; omega
  rw [e, step (c + 1), step c, ← e] at st
  have key := stay_not (by rw [row0_len]; exact ok.l4) (row0_bd ok) h64 hb hp hst hn
  rw [row0_len, row0_sum] at key
  apply key
  unfold Rh.pl at st
  split at st
  · rename_i c1
    rw [if_pos c1]
    omega
  · rename_i c1
    rw [if_neg c1]
    omega
/-- what run tells -/
structure RunOk (vs : List Ve) (left n first : Int) (last : Option Int) : Prop where
  lo : left ≤ first
  al : ∃ j : Nat, n = first + (j : Int) * (vs.length : Int)
  mx : left ≤ first - (vs.length : Int) → ¬ Strt vs left (first - (vs.length : Int))
  inf : last = none → ∀ c : Nat, Strt vs left (first + (c : Int) * (vs.length : Int))
  fin : ∀ L, last = some L → ∃ k : Nat, L = first + (k : Int) * (vs.length : Int) ∧ n ≤ L ∧ (∀ c : Nat, c < k → Strt vs left (first + (c : Int) * (vs.length : Int))) ∧ ¬ Strt vs left L
/-- it is the only one -/
theorem run_uniq (ok : RhOk vs left) {f g : Int} {x y : Option Int} (h1 : RunOk vs left n f x) (h2 : RunOk vs left n g y) : f = g ∧ x = y := by
  have l1 := ok.l1
  obtain ⟨j1, e1⟩ := h1.al
  obtain ⟨j2, e2⟩ := h2.al
  -- straight up to n, both
  have up1 : ∀ (f : Int) (x : Option Int), RunOk vs left n f x → ∀ j : Nat, n = f + (j : Int) * (vs.length : Int) → ∀ c : Nat, c < j → Strt vs left (f + (c : Int) * (vs.length : Int)) := by
    intro f x h j ej c hc
    cases x with
    | none => exact h.inf rfl c
    | some L =>
      obtain ⟨k, ek, hk, hs, _⟩ := h.fin L rfl
      refine hs c ?_
      by_cases hjk : j ≤ k
      · omega
      · have := Int.mul_le_mul_of_nonneg_right (show (k : Int) + 1 ≤ (j : Int) by omega) (show (0 : Int) ≤ (vs.length : Int) by omega)
        rw [Int.add_mul] at this
        omega
  have first_le : ∀ (f g : Int) (x y : Option Int) (j1 j2 : Nat), RunOk vs left n f x → RunOk vs left n g y → n = f + (j1 : Int) * (vs.length : Int) → n = g + (j2 : Int) * (vs.length : Int) → ¬ (j2 < j1) := by
    intro f g x y j1 j2 h1 h2 e1 e2 hj
    have hs := up1 f x h1 j1 e1 (j1 - j2 - 1) (by omega)
    have ej : ((j1 - j2 - 1 : Nat) : Int) = (j1 : Int) - (j2 : Int) - 1 := by omega
    have hm : (0 : Int) ≤ ((j1 - j2 - 1 : Nat) : Int) * (vs.length : Int) := Int.mul_nonneg (by omega) (by omega)
    have eg : g - (vs.length : Int) = f + ((j1 - j2 - 1 : Nat) : Int) * (vs.length : Int) := by
      rw [ej, Int.sub_mul, Int.sub_mul]
      omega
    refine h2.mx ?_ ?_
    · rw [eg]
      have := h1.lo
      omega
    · rw [eg]
      exact hs
  have ej : j1 = j2 := by
    have := first_le f g x y j1 j2 h1 h2 e1 e2
    have := first_le g f y x j2 j1 h2 h1 e2 e1
    omega
  subst ej
  have ef : f = g := by omega
  subst ef
  refine ⟨rfl, ?_⟩
  have last_le : ∀ (x y : Option Int), RunOk vs left n f x → RunOk vs left n f y → ∀ L, x = some L → ∃ M, y = some M ∧ M ≤ L := by
    intro x y h1 h2 L ex
    obtain ⟨k, ek, hk, hs, hn⟩ := h1.fin L ex
    cases y with
    | none =>
      have := h2.inf rfl k
      rw [← ek] at this
      exact absurd this hn
    | some M =>
      obtain ⟨k2, ek2, hk2, hs2, hn2⟩ := h2.fin M rfl
      refine ⟨M, rfl, ?_⟩
      by_cases c : k < k2
      · have := hs2 k c
        rw [← ek] at this
        exact absurd this hn
      · rw [ek, ek2]
        have := Int.mul_le_mul_of_nonneg_right (show (k2 : Int) ≤ (k : Int) by omega) (show (0 : Int) ≤ (vs.length : Int) by omega)
        omega
  cases x with
  | some L =>
    obtain ⟨M, ey, hM⟩ := last_le _ _ h1 h2 L rfl
    subst ey
    obtain ⟨L2, eL, hL⟩ := last_le _ _ h2 h1 M rfl
    have := Option.some.inj eL
    congr 1
    omega
  | none =>
    cases y with
    | none => rfl
    | some M =>
      obtain ⟨L2, eL, _⟩ := last_le _ _ h2 h1 M rfl
      cases eL
/-- a run is the run of its first number -/
theorem run_first {f : Int} {x : Option Int} (ok : RhOk vs left) (h : RunOk vs left n f x) : RunOk vs left f f x := by
  refine ⟨h.lo, ⟨0, by simp⟩, h.mx, h.inf, fun L e => ?_⟩
  obtain ⟨k, ek, hk, hs, hn⟩ := h.fin L e
  have : (0 : Int) ≤ (k : Int) * (vs.length : Int) := Int.mul_nonneg (by omega) (by omega)
  exact ⟨k, ek, by omega, hs, hn⟩
theorem run_fn {f : Int} {x : Option Int} (h : RunOk vs left n f x) : f ≤ n := by
  obtain ⟨j, e⟩ := h.al
  have : (0 : Int) ≤ (j : Int) * (vs.length : Int) := Int.mul_nonneg (by omega) (by omega)
  omega
end
end Z
/-! sum(t) of a tuple of ints. -/
namespace Z
open PySem PySem.Spec PyProof.Rows L2
def rSumT (K : PySem.W.Frag) : RL := fun vs H Q => ∃ (a : Addr) (ns : List Int), vs = [V.ref a] ∧ SqT K H a (ns.map V.int) ∧ Q (.int ns.sum) H
theorem cr_sumT {X : Cx} (hc : X.calm = true) : CallR X (.builtin "sum") (rSumT X.K) := by
  intro pins s σ H vs us Q I r h
  obtain ⟨a, ns, rfl, hs, q⟩ := h
  obtain ⟨its, rv, pt, hz⟩ := I.tuple hs
  rw [Vals.ref1 r]
  have pt2 : s.heap.IsTuple a its.toArray := pt
  obtain ⟨xs, e⟩ := rv.ints.allInts.items
  have hn : numsOf (intItems xs).toList = ns := by
    rw [← e]
    exact rv.ints.numsOf
  rw [nums_intItems] at hn
  rw [e] at pt2
  refine PySem.W.ktm_sumG (I.ok.hd hc) pt2 fun h' tk t' hk => ?_
  have es : PySem.preSum (PySem.numAt xs) xs.size = ns.sum := by
    rw [preSum_eq, List.take_of_length_le (by simp), hn]
  rw [es]
  exact ⟨.int _, H, I.kept hk, ⟨_, rfl⟩, q⟩
end Z
namespace Z
open PySem PySem.Spec PyProof.Rows L2
local macro_rules | `(tactic| walk_at "look") => `(tactic| first | assumption | exact upd_same | exact SqL.of (by assumption) | exact SqT.of (by assumption) | exact SqL.of upd_same | exact SqT.of upd_same)
local macro_rules | `(tactic| walk_at "at") => `(tactic| first | exact at0 | exact at1 | exact at2 | exact at3 | exact ix0 | exact ix1 | assumption | exact atI_nat (by rfl))
local macro_rules | `(tactic| walk_at "sd") => `(tactic| ((try dsimp only); first | assumption | omega | (unfold CMul; omega) | (unfold CDiv; omega) | (unfold CPow; decide) | decide))
local macro_rules | `(tactic| walk_at "st") => `(tactic| first
  | (refine ⟨_, rfl, ?_⟩)
  | (refine ⟨_, _, rfl, rfl, ?_⟩)
  | (refine ⟨rfl, ?_⟩)
  | (refine .inl ⟨_, rfl, ?_⟩)
  | (refine ⟨_, _, _, _, rfl, rfl, (by walk_at "look"), (by walk_at "at"), ?_⟩)
  | (refine ⟨_, _, rfl, .inl (by walk_at "look"), ?_⟩)
  | (refine And.intro (by walk_at "sd") ?_)
  | fail "no step")
local macro_rules | `(tactic| walk_at "go") => `(tactic| repeat' (walk_at "st"))
local macro_rules | `(tactic| walk_at "ans") => `(tactic| (intro Q q; (repeat' (walk_at "st")); exact q))

/-! ### run -/
@[irreducible] def sp_run (K : PySem.W.Frag) : Sp := fun ws H Q E => ∃ (a : Addr) (vs : List Ve) (left : Int) (v : V) (d : PyData), ws = [.ref a, v] ∧ RhAt K H a vs left ∧ RhOk vs left ∧ Dp K H v d ∧
  (isBet d left GREAT = false → E (BN K "BadNumber") none H) ∧
  (∀ n, d = .int n → left ≤ n → n ≤ GREAT → ∀ (first : Int) (last : Option Int) (p : Addr) (H' : Hp), RunOk vs left n first last → H p = none → Ex H H' → H' p = some (.tup [.int first, oV last]) → Q (.ref p) H')
def t_run_4a_2a_0 (K : PySem.W.Frag) (E : XK) : TS := (tRet (tTup (tCons (tVar 4) (tCons (tC .non) tNil))))

def t_run_4a_3a_1 (K : PySem.W.Frag) (E : XK) : TS := (tAug 5 (tOp oMul (tVar 8) (tVar 2)) (ipI fun i j => i + j))

def t_run_4a_3a_0 (K : PySem.W.Frag) (E : XK) : TS := tSeq (tAug 6 (tOp oMul (tVar 8) (tVar 3)) (ipI fun i j => i + j)) (t_run_4a_3a_1 K E)

def t_run_4a_3b_0a_2 (K : PySem.W.Frag) (E : XK) : TS := (tAsg (tVar 1) (gName 5))

def t_run_4a_3b_0a_1 (K : PySem.W.Frag) (E : XK) : TS := tSeq (tAsg (tVar 1) (gName 4)) (t_run_4a_3b_0a_2 K E)

def t_run_4a_3b_0a_0 (K : PySem.W.Frag) (E : XK) : TS := tSeq (tAug 6 (tOp oMul (tOp oSub (tVar 1) (tVar 5)) (tCB cInt (tCons (tOp oLt (tCall (sp_beside K) [] E (tCons (tVar 6) (tCons (tVar 5) tNil))) (tC (.int 0))) tNil))) (ipI fun i j => i + j)) (t_run_4a_3b_0a_1 K E)

def t_run_4a_3b_0b_1a_0a_0 (K : PySem.W.Frag) (E : XK) : TS := (tRet (tTup (tCons (tVar 4) (tCons (tVar 5) tNil))))

def t_run_4a_3b_0b_1a_1 (K : PySem.W.Frag) (E : XK) : TS := (tAsg (tOp oAdd (tVar 5) (tVar 2)) (gName 4))

@[irreducible] def t_run_4a_3b_0b_1a_0 (K : PySem.W.Frag) (E : XK) : TS := tSeq (tIfS (tTest (tOp oLe (tVar 1) (tVar 5)))
    (t_run_4a_3b_0b_1a_0a_0 K E) tNext) (t_run_4a_3b_0b_1a_1 K E)

def t_run_4a_3b_0b_2 (K : PySem.W.Frag) (E : XK) : TS := (tPar 6 5 (tCons (tVar 9) (tCons (tOp oAdd (tVar 5) (tVar 2)) tNil)))

@[irreducible] def t_run_4a_3b_0b_1 (K : PySem.W.Frag) (E : XK) : TS := tSeq (tIfS (tTest (tOp rNe (tVar 9) (tOp oAdd (tVar 6) (tVar 3))))
    (t_run_4a_3b_0b_1a_0 K E) tNext) (t_run_4a_3b_0b_2 K E)

def t_run_4a_3b_0b_0 (K : PySem.W.Frag) (E : XK) : TS := tSeq (tAsg (tCall (sp_lifted K) [] E (tCons (tVar 0) (tCons (tVar 6) (tCons (tVar 5) (tCons (tOp oAdd (tVar 5) (tVar 2)) tNil))))) (gName 9)) (t_run_4a_3b_0b_1 K E)

@[irreducible] def t_run_4a_3b_0 (K : PySem.W.Frag) (E : XK) : TS := (tIfS (tAnd (tTest (tChain oLt oLt (tC (.int 64)) (tVar 5) (tVar 1))) (tB (tCall (sp_does_stay K) [] E (tCons (tVar 7) (tCons (tCall (sp_beside K) [] E (tCons (tVar 6) (tCons (tVar 5) tNil))) tNil)))))
    (t_run_4a_3b_0a_0 K E) (t_run_4a_3b_0b_0 K E))

@[irreducible] def t_run_4a_3 (K : PySem.W.Frag) (E : XK) : TS := (tIfS (tTest (tOp oGt (tVar 8) (tC (.int 0))))
    (t_run_4a_3a_0 K E) (t_run_4a_3b_0 K E))

@[irreducible] def t_run_4a_2 (K : PySem.W.Frag) (E : XK) : TS := tSeq (tIfS (tTest (tOp oIsN (tVar 8) (tC .non)))
    (t_run_4a_2a_0 K E) tNext) (t_run_4a_3 K E)

def t_run_4a_1 (K : PySem.W.Frag) (E : XK) : TS := tSeq (tAsg (tCall (sp_climbs K) [] E (tCons (tVar 6) (tCons (tVar 5) (tCons (tCall (sp_sums_of K) [] E (tCons (tVar 7) tNil)) tNil)))) (gName 8)) (t_run_4a_2 K E)

def t_run_4a_0 (K : PySem.W.Frag) (E : XK) : TS := tSeq (tAsg (tCall (sp_row_ahead K) [] E (tCons (tVar 0) (tCons (tOp oAdd (tVar 5) (tVar 2)) (tCons (tVar 5) tNil)))) (gName 7)) (t_run_4a_1 K E)

@[irreducible] def t_run_4 (K : PySem.W.Frag) (E : XK) : TS := (tWhile (tB (tC (.bl true)))
    (t_run_4a_0 K E))

def t_run_3 (K : PySem.W.Frag) (E : XK) : TS := tSeq (tPar 5 6 (tCons (tVar 4) (tCons (tCall (sp_lifted K) [] E (tCons (tVar 0) (tCons (tC (.int 0)) (tCons (tFld K (tVar 0) "own_left") (tCons (tVar 4) tNil))))) tNil))) (t_run_4 K E)

def t_run_2 (K : PySem.W.Frag) (E : XK) : TS := tSeq (tAsg (tOp oAdd (tFld K (tVar 0) "own_left") (tOp oMod (tOp oSub (tVar 1) (tFld K (tVar 0) "own_left")) (tVar 2))) (gName 4)) (t_run_3 K E)

def t_run_1 (K : PySem.W.Frag) (E : XK) : TS := tSeq (tPar 2 3 (tCons (tCB (cLen K) (tCons (tFld K (tVar 0) "rises") tNil)) (tCons (tCB (rSumT K) (tCons (tFld K (tVar 0) "rises") tNil)) tNil))) (t_run_2 K E)

def t_run_0 (K : PySem.W.Frag) (E : XK) : TS := tSeq (tDrop (tCall (sp_need_number K) [(.int 1000000000000000000000000000000)] E (tCons (tVar 0) (tCons (tVar 1) tNil)))) (t_run_1 K E)

/-- between two turns -/
structure RunSt (vs : List Ve) (left n first size : Int) : Prop where
  lo : left ≤ first
  al : ∃ j : Nat, n = first + (j : Int) * (vs.length : Int)
  mx : left ≤ first - (vs.length : Int) → ¬ Strt vs left (first - (vs.length : Int))
  sz : ∃ k : Nat, size = first + (k : Int) * (vs.length : Int) ∧ ∀ c : Nat, c < k → Strt vs left (first + (c : Int) * (vs.length : Int))
section
variable {vs : List Ve} {left n first size : Int}
theorem RunSt.le (h : RunSt vs left n first size) : left ≤ size := by
  obtain ⟨k, e, _⟩ := h.sz
  have := h.lo
  have : (0 : Int) ≤ (k : Int) * (vs.length : Int) := Int.mul_nonneg (by omega) (by omega)
  omega
theorem RunSt.fn (h : RunSt vs left n first size) : first ≤ n := by
  obtain ⟨j, e⟩ := h.al
  have : (0 : Int) ≤ (j : Int) * (vs.length : Int) := Int.mul_nonneg (by omega) (by omega)
  omega
/-- a leap -/
theorem RunSt.leap (ok : RhOk vs left) (h : RunSt vs left n first size) (L : Nat) (hu : ∀ c : Nat, c < L → Strt vs left (size + (c : Int) * (vs.length : Int))) : RunSt vs left n first (size + (L : Int) * (vs.length : Int)) := by
  obtain ⟨k, e, hs⟩ := h.sz
  refine ⟨h.lo, h.al, h.mx, k + L, ?_, fun c hc => ?_⟩
  · rw [Int.natCast_add, Int.add_mul]
    omega
  · by_cases c1 : c < k
    · exact hs c c1
    · have := hu (c - k) (by omega)
      have e2 : size + ((c - k : Nat) : Int) * (vs.length : Int) = first + (c : Int) * (vs.length : Int) := by
        have : ((c - k : Nat) : Int) = (c : Int) - (k : Int) := by omega
        rw [this, Int.sub_mul]
        omega
      rw [e2] at this
      exact this
/-- how far it is to n, in rhymes -/
theorem RunSt.to_n (ok : RhOk vs left) (h : RunSt vs left n first size) (hn : size < n) : ∃ L : Nat, 0 < L ∧ n = size + (L : Int) * (vs.length : Int) := by
  have l1 := ok.l1
  obtain ⟨k, e, hs⟩ := h.sz
  obtain ⟨j, ej⟩ := h.al
  by_cases c : k < j
  · refine ⟨j - k, by omega, ?_⟩
    have : ((j - k : Nat) : Int) = (j : Int) - (k : Int) := by omega
    rw [this, Int.sub_mul]
    omega
  · have := Int.mul_le_mul_of_nonneg_right (show (j : Int) ≤ (k : Int) by omega) (show (0 : Int) ≤ (vs.length : Int) by omega)
    omega
/-- it begins anew at a number m on from one that is not straight -/
theorem RunSt.anew (ok : RhOk vs left) {f : Int} (hf : left ≤ f - (vs.length : Int)) (al : ∃ j : Nat, n = f + (j : Int) * (vs.length : Int)) (hn : ¬ Strt vs left (f - (vs.length : Int))) : RunSt vs left n f f := by
  refine ⟨by omega, al, fun _ => hn, 0, by simp, fun c hc => absurd hc (by omega)⟩
theorem RunSt.ends (h : RunSt vs left n first size) (hn : n ≤ size) (hs : ¬ Strt vs left size) : RunOk vs left n first (some size) := by
  obtain ⟨k, e, hk⟩ := h.sz
  refine ⟨h.lo, h.al, h.mx, (fun z => nomatch z), fun L eL => ?_⟩
  have := Option.some.inj eL
  subst this
  exact ⟨k, e, hn, hk, hs⟩
theorem RunSt.ever (ok : RhOk vs left) (h : RunSt vs left n first size) (hs : ∀ c : Int, 0 ≤ c → Up0 vs left size c) : RunOk vs left n first none := by
  obtain ⟨k, e, hk⟩ := h.sz
  refine ⟨h.lo, h.al, h.mx, fun _ c => ?_, fun L z => nomatch z⟩
  by_cases c1 : c < k
  · exact hk c c1
  · have := (leap_str ok h.le (c - k + 1) fun c c0 _ => hs c c0).2 (c - k) (by omega)
    have e2 : size + ((c - k : Nat) : Int) * (vs.length : Int) = first + (c : Int) * (vs.length : Int) := by
      have : ((c - k : Nat) : Int) = (c : Int) - (k : Int) := by omega
      rw [this, Int.sub_mul]
      omega
    rw [e2] at this
    exact this
end
/-- what is left to do -/
def runMuI (vs : List Ve) (n place size : Int) : Nat :=
  if n ≤ size ∧ 64 ≤ size then (if Rh.climbsF place size (sumsL (row0 vs)) = some 0 then 0 else 1) else 2 + ((n - size).toNat + (64 - size).toNat)
def runMu (vs : List Ve) (σ : L2.St) (_ : Hp) : Nat := match σ with
  | [_, some (.int n), _, _, _, some (.int size), some (.int place), _, _, _] => runMuI vs n place size
  | _ => 0
/-- the state -/
def RunPv (K : PySem.W.Frag) (H0 : Hp) (a : Addr) (vs : List Ve) (left n : Int) (σ : L2.St) (H : Hp) : Prop := ∃ (first size : Int) (u7 u8 u9 : Option V),
  σ = [some (.ref a), some (.int n), some (.int (vs.length : Nat)), some (.int (rises vs).sum), some (.int first), some (.int size), some (.int (heirF vs left size)), u7, u8, u9] ∧ RunSt vs left n first size ∧ Ex H0 H
theorem muI_small {vs : List Ve} {n p s : Int} (h : n ≤ s ∧ 64 ≤ s) : runMuI vs n p s ≤ 1 := by
  unfold runMuI
  rw [if_pos h]
  split <;> omega
theorem muI_lt {vs : List Ve} {n p s p' s' : Int} (h : ¬ (n ≤ s ∧ 64 ≤ s)) (hs : s < s') : runMuI vs n p' s' < runMuI vs n p s := by
  have e : runMuI vs n p s = 2 + ((n - s).toNat + (64 - s).toNat) := by
    unfold runMuI
    rw [if_neg h]
  by_cases c : n ≤ s' ∧ 64 ≤ s'
  · have := muI_small (vs := vs) (p := p') c
    omega
  · have e' : runMuI vs n p' s' = 2 + ((n - s').toNat + (64 - s').toNat) := by
      unfold runMuI
      rw [if_neg c]
    omega
theorem run_turn {K : PySem.W.Frag} {E : XK} {D : Ends} {H0 H : Hp} {a : Addr} {vs : List Ve} {left n first size : Int} {u7 u8 u9 : Option V} (R : RhAt K H0 a vs left) (ok : RhOk vs left) (T : RhC K) (h : RunSt vs left n first size) (e : Ex H0 H)
    (kr : ∀ (first : Int) (last : Option Int) (p : Addr) (H' : Hp), RunOk vs left n first last → H0 p = none → Ex H0 H' → H' p = some (.tup [.int first, oV last]) → D.rt (.ref p) H')
    (k : ∀ (first' size' : Int) (u7 u8 u9 : Option V) (H' : Hp), RunSt vs left n first' size' → Ex H0 H' → runMuI vs n (heirF vs left size') size' < runMuI vs n (heirF vs left size) size →
      D.nx [some (.ref a), some (.int n), some (.int (vs.length : Nat)), some (.int (rises vs).sum), some (.int first'), some (.int size'), some (.int (heirF vs left size')), u7, u8, u9] H') :
    t_run_4a_0 K E D [some (.ref a), some (.int n), some (.int (vs.length : Nat)), some (.int (rises vs).sum), some (.int first), some (.int size), some (.int (heirF vs left size)), u7, u8, u9] H := by
  have l1 := ok.l1
  have l4 := ok.l4
  have hle := h.le
  have hfn := h.fn
  have lf := ok.lf
  have hR := rise_bd ok
  obtain ⟨p0, p1⟩ := heir_bd ok hle
  have hT : -24 ≤ (rises vs).sum ∧ (rises vs).sum ≤ 24 := by
    have := take_bd (row0_bd ok) vs.length
    rw [List.take_of_length_le (by rw [row0_len]; exact Nat.le_refl _), row0_sum] at this
    omega
  refine ⟨_, rfl, _, rfl, _, rfl, _, _, rfl, rfl, _, rfl, ?_⟩
  unfold sp_row_ahead
  refine ⟨a, vs, left, _, size, rfl, rh_ex e R, ok, fun pr H1 _ e1 hr => ?_⟩
  have ea : size + ((vs.length : Nat) : Int) - size - 1 = (vs.length : Int) - 1 := by omega
  rw [ea] at hr
  show t_run_4a_1 K E D [some (.ref a), some (.int n), some (.int (vs.length : Nat)), some (.int (rises vs).sum), some (.int first), some (.int size), some (.int (heirF vs left size)), some (.ref pr), u8, u9] H1
  refine ⟨_, rfl, _, rfl, _, rfl, ?_⟩
  unfold sp_sums_of
  refine ⟨pr, row0 vs, rfl, SqL.of hr, (by rw [row0_len]; omega), fun ps H2 _ e2 hsm => ?_⟩
  unfold sp_climbs
  refine ⟨heirF vs left size, size, ps, sumsL (row0 vs), rfl, SqL.of hsm, (by rw [rsums_len]; omega), (by rw [rsums_len]; omega), (by rw [last_sum ok]; omega), (by rw [last_sum ok]; omega), fun H3 e3 => ?_⟩
  have told := Rh.climbs_told (heirF vs left size) size (sumsL (row0 vs))
  have e03 : Ex H0 H3 := ex_trans e (ex_trans e1 (ex_trans e2 e3))
  have hrr : SqL K H3 pr ((row0 vs).map V.int) := sq_ex (ex_trans e2 e3) (SqL.of hr)
  generalize hf : Rh.climbsF (heirF vs left size) size (sumsL (row0 vs)) = found at told
  show t_run_4a_2 K E D [some (.ref a), some (.int n), some (.int (vs.length : Nat)), some (.int (rises vs).sum), some (.int first), some (.int size), some (.int (heirF vs left size)), some (.ref pr), some (oV found), u9] H3
  unfold t_run_4a_2
  refine ⟨_, rfl, rfl, _, rfl, ?_⟩
  rw [oV_none]
  cases hfo : found with
  | none =>
    rw [hfo] at told
    refine iteT ⟨_, rfl, (by show 2 ≤ sizeLine; decide), fun p hp => ?_⟩
    exact kr first none p _ (h.ever ok (told.1 rfl)) (ex_free e03 hp) (ex_trans e03 (ex_new hp)) upd_same
  | some L =>
    rw [hfo] at told hf
    obtain ⟨L0, Lu, Ln⟩ := told.2 L rfl
    refine iteF ?_
    show t_run_4a_3 K E D [some (.ref a), some (.int n), some (.int (vs.length : Nat)), some (.int (rises vs).sum), some (.int first), some (.int size), some (.int (heirF vs left size)), some (.ref pr), some (.int L), u9] H3
    unfold t_run_4a_3
    refine if_go (decide (0 < L)) (by walk_at "ans") (fun c => ?_) (fun c => ?_)
    · have c := of_decide_eq_true c
      obtain ⟨L, rfl⟩ := Int.eq_ofNat_of_zero_le L0
      obtain ⟨g1, g2⟩ := leap_str ok hle L Lu
      have hLp : 0 < (L : Int) * (vs.length : Int) := Int.mul_pos c (by omega)
      refine ⟨_, rfl, _, rfl, _, rfl, _, _, rfl, rfl, .inr ⟨by omega, by omega⟩, _, _, rfl, rfl, ?_⟩
      refine ⟨_, rfl, _, rfl, _, rfl, _, _, rfl, rfl, .inr ⟨by omega, by omega⟩, _, _, rfl, rfl, ?_⟩
      have kk := k first (size + (L : Int) * (vs.length : Int)) (some (.ref pr)) (some (.int L)) u9 H3 (h.leap ok L g2) e03 ?_
      · rw [g1] at kk
        exact kk
      · by_cases cs : n ≤ size ∧ 64 ≤ size
        · have z0 : runMuI vs n (heirF vs left size) size = 1 := by
            unfold runMuI
            rw [if_pos cs, hf, if_neg]
            intro z
            have := Option.some.inj z
            omega
          have z1 : runMuI vs n (heirF vs left (size + (L : Int) * (vs.length : Int))) (size + (L : Int) * (vs.length : Int)) = 0 := by
            unfold runMuI
            rw [if_pos (by omega)]
            have nu : ¬ Rh.Up (heirF vs left (size + (L : Int) * (vs.length : Int))) (size + (L : Int) * (vs.length : Int)) (sumsL (row0 vs)) 0 := by
              rw [g1]
              exact fun u => Ln ((up_shift ok).mpr u)
            have told2 := Rh.climbs_told (heirF vs left (size + (L : Int) * (vs.length : Int))) (size + (L : Int) * (vs.length : Int)) (sumsL (row0 vs))
            rw [if_pos]
            cases hc2 : Rh.climbsF (heirF vs left (size + (L : Int) * (vs.length : Int))) (size + (L : Int) * (vs.length : Int)) (sumsL (row0 vs)) with
            | none =>
              rw [hc2] at told2
              exact absurd (told2.1 rfl 0 (by omega)) nu
            | some M =>
              rw [hc2] at told2
              obtain ⟨m0, mu, _⟩ := told2.2 M rfl
              by_cases cM : 0 < M
              · exact absurd (mu 0 (by omega) cM) nu
              · congr 1
                omega
          omega
        · exact muI_lt cs (by omega)
    · have c := of_decide_eq_false c
      have eL : L = 0 := by omega
      subst eL
      unfold t_run_4a_3b_0
      generalize hb : (if heirF vs left size < size - heirF vs left size then heirF vs left size else heirF vs left size - size) = b
      have hpl : Rh.pl size b = heirF vs left size := by
        rw [← hb]
        exact pl_beside p0 p1
      have besid : ∀ Q : VK, Q (.int b) H3 → sp_beside K ([.int (heirF vs left size), .int size] ++ []) H3 Q E := fun Q q => by
        unfold sp_beside
        refine ⟨heirF vs left size, size, rfl, ?_⟩
        rw [hb]
        exact q
      refine if_go ((decide (64 < size) && decide (size < n)) && decide (Rh.stays (row0 vs) b = b)) (fun Q q => and_go _ _ (fun Q q => ?_) (fun _ Q q => ?_) q) (fun cc => ?_) (fun cc => ?_)
      · refine ⟨_, rfl, _, _, rfl, rfl, _, rfl, ?_⟩
        cases cq : decide (64 < size) with
        | true =>
          rw [cq, Bool.true_and] at q
          exact iteT ⟨_, rfl, _, _, rfl, rfl, _, rfl, q⟩
        | false =>
          rw [cq, Bool.false_and] at q
          exact iteF ⟨_, rfl, q⟩
      · refine ⟨_, rfl, _, rfl, _, rfl, besid _ ?_⟩
        unfold sp_does_stay
        exact ⟨pr, _, b, rfl, hrr, _, rfl, q⟩
      · obtain ⟨cc, c3⟩ := Bool.and_eq_true_iff.mp cc
        obtain ⟨c1, c2⟩ := Bool.and_eq_true_iff.mp cc
        have c1 := of_decide_eq_true c1
        have c2 := of_decide_eq_true c2
        have c3 := of_decide_eq_true c3
        have hnear := near_up (a := (vs.length : Int) - 1) hR l1 l4 p0 p1 c1 Ln
        rw [hb] at hnear
        obtain ⟨M, hM, eM⟩ := h.to_n ok c2
        have gM := stay_str ok hle c1 hnear hpl c3 Ln
        have eMn : n - (vs.length : Int) = size + ((M - 1 : Nat) : Int) * (vs.length : Int) := by
          have : ((M - 1 : Nat) : Int) = (M : Int) - 1 := by omega
          rw [this, Int.sub_mul]
          omega
        have hMm : (0 : Int) ≤ ((M - 1 : Nat) : Int) * (vs.length : Int) := Int.mul_nonneg (by omega) (by omega)
        refine ⟨_, rfl, _, rfl, _, rfl, _, _, rfl, rfl, _, rfl, _, rfl, besid _ ⟨_, _, rfl, rfl, .inr ⟨_, rfl, _, _, rfl, rfl, .inr ?_, _, _, rfl, rfl, ?_⟩⟩⟩
        · constructor <;> split <;> decide
        · refine ⟨_, rfl, _, rfl, ?_⟩
          have hnew : heirF vs left size + (n - size) * (if decide (b < 0) = true then 1 else 0) = heirF vs left n := by
            rw [eM, (gM M).1, ← hpl]
            unfold Rh.pl
            by_cases cb : b < 0
            · rw [decide_eq_true cb, if_pos rfl, if_pos cb, if_pos cb]
              omega
            · rw [decide_eq_false cb, if_neg Bool.false_ne_true, if_neg cb, if_neg cb]
              omega
          have kk := k n n (some (.ref pr)) (some (.int 0)) u9 H3 (RunSt.anew ok (by omega) ⟨0, by simp⟩ (by rw [eMn]; exact (gM (M - 1)).2)) e03 (muI_lt (by omega) c2)
          rw [← hnew] at kk
          exact kk
      · show t_run_4a_3b_0b_0 K E D [some (.ref a), some (.int n), some (.int (vs.length : Nat)), some (.int (rises vs).sum), some (.int first), some (.int size), some (.int (heirF vs left size)), some (.ref pr), some (.int 0), u9] H3
        refine ⟨_, rfl, _, rfl, _, rfl, _, rfl, _, rfl, _, _, rfl, rfl, ?_⟩
        unfold sp_lifted
        refine ⟨a, vs, left, heirF vs left size, size, _, rfl, rh_ex e03 R, ok, p0, p1, fun H4 e4 => ?_⟩
        have en : (size + ((vs.length : Nat) : Int) - size).toNat = vs.length := by omega
        rw [en, ← heir_next ok hle]
        have e04 := ex_trans e03 e4
        show t_run_4a_3b_0b_1 K E D [some (.ref a), some (.int n), some (.int (vs.length : Nat)), some (.int (rises vs).sum), some (.int first), some (.int size), some (.int (heirF vs left size)), some (.ref pr), some (.int 0), some (.int (heirF vs left (size + (vs.length : Int))))] H4
        unfold t_run_4a_3b_0b_1
        refine if_go (!decide (heirF vs left (size + (vs.length : Int)) = heirF vs left size + (rises vs).sum)) (fun Q q => ⟨_, rfl, _, rfl, _, rfl, _, _, rfl, rfl, rfl, _, rfl, ?_⟩) (fun cn => ?_) (fun cn => ?_)
        · rw [d_int]
          exact q
        · have ns : ¬ Strt vs left size := fun z => by
            rw [decide_eq_true (show heirF vs left (size + (vs.length : Int)) = heirF vs left size + (rises vs).sum from z)] at cn
            cases cn
          unfold t_run_4a_3b_0b_1a_0
          refine if_go (decide (n ≤ size)) (by walk_at "ans") (fun cs => ?_) (fun cs => ?_)
          · have cs := of_decide_eq_true cs
            refine ⟨_, rfl, _, rfl, (by show 2 ≤ sizeLine; decide), fun p hp => ?_⟩
            exact kr first (some size) p _ (h.ends cs ns) (ex_free e04 hp) (ex_trans e04 (ex_new hp)) upd_same
          · have cs := of_decide_eq_false cs
            refine ⟨_, rfl, _, rfl, _, _, rfl, rfl, ?_⟩
            refine ⟨_, rfl, _, rfl, _, rfl, _, _, rfl, rfl, _, _, rfl, ?_⟩
            obtain ⟨M, hM, eM⟩ := h.to_n ok (show size < n by omega)
            have al : ∃ j : Nat, n = size + (vs.length : Int) + (j : Int) * (vs.length : Int) := ⟨M - 1, by
              have : ((M - 1 : Nat) : Int) = (M : Int) - 1 := by omega
              rw [this, Int.sub_mul]
              omega⟩
            have es : size + (vs.length : Int) - (vs.length : Int) = size := by omega
            exact k (size + (vs.length : Int)) (size + (vs.length : Int)) _ _ _ H4 (RunSt.anew ok (by omega) al (by rw [es]; exact ns)) e04 (muI_lt (by omega) (by omega))
        · have st : Strt vs left size := by
            cases z : decide (heirF vs left (size + (vs.length : Int)) = heirF vs left size + (rises vs).sum) with
            | true => exact (show heirF vs left (size + (vs.length : Int)) = heirF vs left size + (rises vs).sum from of_decide_eq_true z)
            | false => rw [z] at cn; cases cn
          refine ⟨_, rfl, _, rfl, _, rfl, _, _, rfl, rfl, _, _, rfl, ?_⟩
          have g := h.leap ok 1 fun c hc => by
            have e0 : c = 0 := by omega
            subst e0
            have : size + ((0 : Nat) : Int) * (vs.length : Int) = size := by simp
            rw [this]
            exact st
          have e1 : size + ((1 : Nat) : Int) * (vs.length : Int) = size + (vs.length : Int) := by omega
          rw [e1] at g
          refine k first (size + (vs.length : Int)) _ _ _ H4 g e04 (muI_lt (fun cs => ?_) (by omega))
          exact Ln (str_up ok hle cs.2 st)
theorem pure_run {K : PySem.W.Frag} (T : RhC K) (ws : List V) (H : Hp) (Q : VK) (E : XK) (h : sp_run K ws H Q E) : t_run_0 K E { nx := fun _ H' => Q .non H', rt := Q } (start ["rhyme", "n", "many", "rise", "first", "size", "place", "row", "leap", "later"] ws) H := by
  unfold sp_run at h
  obtain ⟨a, vs, left, v, d, rfl, R, ok, hd, k1, k2⟩ := h
  obtain ⟨dx, tv, tr, h1, h2, h3⟩ := id R
  have l1 := ok.l1
  have lf := ok.lf
  show t_run_0 K E _ [some (.ref a), some v, none, none, none, none, none, none, none, none] H
  refine ⟨_, rfl, _, rfl, ?_⟩
  unfold sp_need_number
  refine ⟨a, vs, left, v, d, GREAT, rfl, R, hd, fun hb => ?_, k1⟩
  obtain ⟨n, rfl, hn1, hn2⟩ := isBet_int hb
  obtain rfl := dp_int hd
  have k2 := k2 n rfl hn1 hn2
  have hl : ((rises vs).map V.int).length = vs.length := by rw [List.length_map, rises_len]
  show t_run_1 K E _ [some (.ref a), some (.int n), none, none, none, none, none, none, none, none] H
  refine ⟨_, rfl, a, _, dx, _, _, rfl, h1, T.cl, T.nr, rhF_r _ _ _, tr, _, rfl, .inr h3, _, rfl, a, _, dx, _, _, rfl, h1, T.cl, T.nr, rhF_r _ _ _, tr, _, rfl, h3, _, _, rfl, ?_⟩
  rw [hl]
  show t_run_2 K E _ [some (.ref a), some (.int n), some (.int (vs.length : Nat)), some (.int (rises vs).sum), none, none, none, none, none, none] H
  refine ⟨_, rfl, a, _, dx, _, _, rfl, h1, T.cl, T.nl, rhF_l _ _ _, _, rfl, _, rfl, a, _, dx, _, _, rfl, h1, T.cl, T.nl, rhF_l _ _ _, _, _, rfl, rfl, _, rfl, _, _, rfl, rfl, (by omega), _, _, rfl, rfl, ?_⟩
  have f0 := Int.emod_nonneg (n - left) (show (vs.length : Int) ≠ 0 by omega)
  have f1 := Int.emod_lt_of_pos (n - left) (show (0 : Int) < (vs.length : Int) by omega)
  have f2 := Int.mul_ediv_add_emod (n - left) (vs.length : Int)
  have f3 : 0 ≤ (n - left) / (vs.length : Int) := Int.ediv_nonneg (by omega) (by omega)
  generalize hF : left + (n - left) % (vs.length : Int) = first
  show t_run_3 K E _ [some (.ref a), some (.int n), some (.int (vs.length : Nat)), some (.int (rises vs).sum), some (.int (left + (n - left) % (vs.length : Int))), none, none, none, none, none] H
  rw [hF]
  refine ⟨_, rfl, _, rfl, _, rfl, a, _, dx, _, _, rfl, h1, T.cl, T.nl, rhF_l _ _ _, _, rfl, ?_⟩
  unfold sp_lifted
  refine ⟨a, vs, left, 0, left, first, rfl, R, ok, by omega, by omega, fun H1 e1 => ⟨_, _, rfl, ?_⟩⟩
  show t_run_4 K E _ [some (.ref a), some (.int n), some (.int (vs.length : Nat)), some (.int (rises vs).sum), some (.int first), some (.int first), some (.int (heirF vs left first)), none, none, none] H1
  have st : RunSt vs left n first first := by
    refine ⟨by omega, ⟨((n - left) / (vs.length : Int)).toNat, ?_⟩, fun z => absurd z (by omega), 0, by simp, fun c hc => absurd hc (by omega)⟩
    have : ((((n - left) / (vs.length : Int)).toNat : Nat) : Int) = (n - left) / (vs.length : Int) := by omega
    rw [this, Int.mul_comm]
    omega
  unfold t_run_4
  refine while_by (RunPv K H a vs left n) (runMu vs) ⟨first, first, none, none, none, rfl, st, e1⟩ ?_ ?_
  · rintro σ H' ⟨f, s, u7, u8, u9, rfl, hst, e⟩
    refine ⟨_, rfl, iteT ?_⟩
    exact run_turn (E := E) R ok T hst e k2 fun f' s' w7 w8 w9 H'' hst' e' hm => ⟨⟨f', s', w7, w8, w9, rfl, hst', e'⟩, hm⟩
  · rintro σ H' Q Q' hq ⟨b, eb, q⟩
    exact ⟨b, eb, hq _ _ q⟩

end Z
namespace Z
open PySem PySem.Spec PyProof.Rows L2
local macro_rules | `(tactic| walk_at "look") => `(tactic| first | assumption | exact upd_same | exact SqL.of (by assumption) | exact SqT.of (by assumption) | exact SqL.of upd_same | exact SqT.of upd_same)
local macro_rules | `(tactic| walk_at "at") => `(tactic| first | exact at0 | exact at1 | exact at2 | exact at3 | exact ix0 | exact ix1 | assumption | exact atI_nat (by rfl))
local macro_rules | `(tactic| walk_at "sd") => `(tactic| ((try dsimp only); first | assumption | omega | (unfold CMul; omega) | (unfold CDiv; omega) | (unfold CPow; decide) | decide))
local macro_rules | `(tactic| walk_at "st") => `(tactic| first
  | (refine ⟨_, rfl, ?_⟩)
  | (refine ⟨_, _, rfl, rfl, ?_⟩)
  | (refine ⟨rfl, ?_⟩)
  | (refine .inl ⟨_, rfl, ?_⟩)
  | (refine ⟨_, _, _, _, rfl, rfl, (by walk_at "look"), (by walk_at "at"), ?_⟩)
  | (refine ⟨_, _, rfl, .inl (by walk_at "look"), ?_⟩)
  | (refine And.intro (by walk_at "sd") ?_)
  | fail "no step")
local macro_rules | `(tactic| walk_at "go") => `(tactic| repeat' (walk_at "st"))
local macro_rules | `(tactic| walk_at "ans") => `(tactic| (intro Q q; (repeat' (walk_at "st")); exact q))

/-! ### the law's own heir, and what it asks of it -/
section
variable {vs : List Ve} {left n s : Int}
theorem str_sum (ok : RhOk vs left) {f : Int} (hf : left ≤ f) : ∀ k : Nat, (∀ c : Nat, c < k → Strt vs left (f + (c : Int) * (vs.length : Int))) → heirF vs left (f + (k : Int) * (vs.length : Int)) = heirF vs left f + (k : Int) * (rises vs).sum
  | 0, _ => by
    have e : f + ((0 : Nat) : Int) * (vs.length : Int) = f := by simp
    rw [e]
    simp
  | k + 1, h => by
    have st := h k (by omega)
    unfold Strt at st
    have e : f + ((k + 1 : Nat) : Int) * (vs.length : Int) = f + (k : Int) * (vs.length : Int) + (vs.length : Int) := by
      rw [Int.natCast_add, Int.add_mul]; simp; omega
    have e2 : ((k + 1 : Nat) : Int) * (rises vs).sum = (k : Int) * (rises vs).sum + (rises vs).sum := by
      rw [Int.natCast_add, Int.add_mul]; simp
    rw [e, st, str_sum ok hf k fun c hc => h c (by omega), e2]
    omega
/-- a run that ends is not long -/
theorem run_bound (ok : RhOk vs left) {f L : Int} (h : RunOk vs left n f (some L)) : L ≤ 5 * f + 1000 := by
  have l1 := ok.l1
  have l4 := ok.l4
  have lf := ok.lf
  have lo := h.lo
  obtain ⟨k, ek, hk, hs, hn⟩ := h.fin L rfl
  have hsum := str_sum ok h.lo k hs
  obtain ⟨p0, p1⟩ := heir_bd ok h.lo
  have hm0 : (0 : Int) ≤ (k : Int) * (vs.length : Int) := Int.mul_nonneg (by omega) (by omega)
  obtain ⟨q0, q1⟩ := heir_bd ok (show left ≤ L by omega)
  rw [← ek] at hsum
  have hk4 : (k : Int) * (vs.length : Int) ≤ (k : Int) * 4 := Int.mul_le_mul_of_nonneg_left (by omega) (by omega)
  by_cases c1 : (rises vs).sum < 0
  · have : (k : Int) * (rises vs).sum ≤ (k : Int) * (-1) := Int.mul_le_mul_of_nonneg_left (by omega) (by omega)
    omega
  · by_cases c2 : (vs.length : Int) < (rises vs).sum
    · have : (k : Int) * ((vs.length : Int) + 1) ≤ (k : Int) * (rises vs).sum := Int.mul_le_mul_of_nonneg_left (by omega) (by omega)
      rw [Int.mul_add] at this
      omega
    · by_cases c3 : k ≤ 64
      · omega
      · exfalso
        have st := hs 64 (by omega)
        have hge : (64 : Int) ≤ ((64 : Nat) : Int) * (vs.length : Int) := by omega
        have u := str_up ok (by omega) (by omega) st
        have ever : ∀ c : Int, 0 ≤ c → Up0 vs left (f + ((64 : Nat) : Int) * (vs.length : Int)) c := fun c hc => by
          intro i hi
          have ui := u i hi
          rw [last_sum ok] at ui ⊢
          rw [rsums_len] at ui hi ⊢
          rw [Int.zero_mul, Int.zero_mul] at ui
          have a1 : 0 ≤ c * (rises vs).sum := Int.mul_nonneg hc (by omega)
          have a2 : c * (rises vs).sum ≤ c * (vs.length : Int) := Int.mul_le_mul_of_nonneg_left (by omega) hc
          omega
        have := (leap_str ok (by omega) (k - 64 + 1) fun c c0 _ => ever c c0).2 (k - 64) (by omega)
        have e : f + ((64 : Nat) : Int) * (vs.length : Int) + ((k - 64 : Nat) : Int) * (vs.length : Int) = L := by
          have : ((k - 64 : Nat) : Int) = (k : Int) - 64 := by omega
          rw [this, Int.sub_mul]
          omega
        rw [e] at this
        exact hn this
end
@[irreducible] def sp_law_heir (K : PySem.W.Frag) : Sp := fun ws H Q _ => ∃ (t : V) (vs : List Ve) (left N : Int), ws = [t, .int N] ∧ Dp K H t (tD vs left) ∧ RhOk vs left ∧ left ≤ N ∧ N ≤ 1000 ∧ ∀ H', Ex H H' → Q (.int (heirF vs left N)) H'
def t_law_heir_2a_0 (K : PySem.W.Frag) (E : XK) : TS := (tAsg (tOp oMod (tOp oAdd (tVar 3) (tOp (rIxL K) (tVar 2) (tOp oMod (tOp oSub (tVar 1) (tVar 4)) (tCB (cLen K) (tCons (tVar 2) tNil))))) (tVar 4)) (gName 3))

def t_law_heir_3 (K : PySem.W.Frag) (E : XK) : TS := (tRet (tVar 3))

@[irreducible] def t_law_heir_2 (K : PySem.W.Frag) (E : XK) : TS := tSeq (tFor (iRng2 (tCons (tOp oAdd (tOp (rIxT K) (tVar 0) (tC (.int 1))) (tC (.int 1))) (tCons (tOp oAdd (tVar 1) (tC (.int 1))) tNil))) (gName 4)
    (t_law_heir_2a_0 K E)) (t_law_heir_3 K E)

def t_law_heir_1 (K : PySem.W.Frag) (E : XK) : TS := tSeq (tAsg (tC (.int 0)) (gName 3)) (t_law_heir_2 K E)

def t_law_heir_0 (K : PySem.W.Frag) (E : XK) : TS := tSeq (tAsg (tCall (sp_law_rises K) [] E0 (tCons (tVar 0) tNil)) (gName 2)) (t_law_heir_1 K E)

theorem pure_law_heir {K : PySem.W.Frag} (ws : List V) (H : Hp) (Q : VK) (E : XK) (h : sp_law_heir K ws H Q E) : t_law_heir_0 K E { nx := fun _ H' => Q .non H', rt := Q } (start ["_law_t", "_law_n", "_law_rises_here", "_law_place", "_law_size"] ws) H := by
  unfold sp_law_heir at h
  obtain ⟨t, vs, left, N, rfl, hT, ok, h1, h2, k⟩ := h
  have lf := ok.lf
  have l1 := ok.l1
  have l4 := ok.l4
  show t_law_heir_0 K E _ [some t, some (.int N), none, none, none] H
  refine ⟨_, rfl, ?_⟩
  unfold sp_law_rises
  refine ⟨t, vs, left, rfl, hT, ok, fun q H1 nq e1 hq => ?_⟩
  obtain ⟨ta, tv, rfl, hs, hv⟩ := tD_at (dp_ex e1 hT)
  show t_law_heir_2 K E _ [some (.ref ta), some (.int N), some (.ref q), some (.int 0), none] H1
  unfold t_law_heir_2
  refine ⟨_, rfl, ta, _, 1, _, rfl, rfl, hs, at1, _, _, rfl, rfl, _, rfl, _, _, rfl, rfl, _, _, rfl, ⟨by omega, by omega, by omega, by omega⟩, for_range (fun i σ H' => H' = H1 ∧ ∃ u, σ = [some (.ref ta), some (.int N), some (.ref q), some (.int (Rh.lift (rises vs) N i left 0)), u]) ⟨rfl, _, rfl⟩ ?_ ?_⟩
  · rintro i σ H3 hi ⟨rfl, u, rfl⟩
    have hl : ((rises vs).map V.int).length = vs.length := by rw [List.length_map, rises_len]
    have er := rise_at (R := rises vs) (by rw [rises_len]; omega) (N - (left + 1 + (i : Int)))
    rw [rises_len] at er
    refine ⟨_, rfl, _, rfl, _, rfl, _, rfl, _, _, rfl, rfl, _, rfl, q, _, rfl, .inl (SqL.of hq), _, _, rfl, rfl, (by rw [hl]; omega), ?_⟩
    rw [hl]
    refine ⟨q, _, _, _, rfl, rfl, SqL.of hq, er, _, _, rfl, rfl, _, rfl, _, _, rfl, rfl, (by omega), ⟨rfl, some (.int (left + 1 + (i : Int))), ?_⟩⟩
    have e : (Rh.lift (rises vs) N i left 0 + Rh.rI (rises vs) (N - (left + 1 + (i : Int)))) % (left + 1 + (i : Int)) = Rh.lift (rises vs) N (i + 1) left 0 := by
      rw [Rh.lift_snoc]
      have e1 : N - (left + 1 + (i : Int)) = N - (left + (i : Int)) - 1 := by omega
      have e2 : left + 1 + (i : Int) = left + (i : Int) + 1 := by omega
      rw [e1, e2]
    rw [← e]
    rfl
  · rintro σ H3 ⟨rfl, u, rfl⟩
    refine ⟨_, rfl, ?_⟩
    have e : (N + 1 - (left + 1)).toNat = (N - left).toNat := by omega
    rw [e]
    exact k _ e1
@[irreducible] def sp_law_at (K : PySem.W.Frag) : Sp := fun ws H Q _ => ∃ (t : V) (a : Addr) (vs : List Ve) (left N : Int), ws = [t, .ref a, .int N] ∧ Dp K H t (tD vs left) ∧ RhAt K H a vs left ∧ RhOk vs left ∧ left ≤ N ∧ N ≤ GREAT ∧ ∀ H', Ex H H' → Q (.int (heirF vs left N)) H'
def t_law_at_0 (K : PySem.W.Frag) (E : XK) : TS := (tRet (tIf (tTest (tOp oLt (tVar 2) (tC (.int 400)))) (tCall (sp_law_heir K) [] E0 (tCons (tVar 0) (tCons (tVar 2) tNil))) (tCall (sp_heir K) [] E0 (tCons (tVar 1) (tCons (tVar 2) tNil)))))

theorem pure_law_at {K : PySem.W.Frag} (ws : List V) (H : Hp) (Q : VK) (E : XK) (h : sp_law_at K ws H Q E) : t_law_at_0 K E { nx := fun _ H' => Q .non H', rt := Q } (start ["_law_t", "_law_rhyme", "_law_n"] ws) H := by
  unfold sp_law_at at h
  obtain ⟨t, a, vs, left, N, rfl, hT, R, ok, h1, h2, k⟩ := h
  show t_law_at_0 K E _ [some t, some (.ref a), some (.int N)] H
  refine ⟨_, rfl, _, _, rfl, rfl, _, rfl, ?_⟩
  by_cases c : N < 400
  · refine iteT' (decide_eq_true c) ⟨_, rfl, _, rfl, ?_⟩
    unfold sp_law_heir
    exact ⟨t, vs, left, N, rfl, hT, ok, h1, by omega, k⟩
  · exact iteF' (decide_eq_false c) ⟨_, rfl, _, rfl, heir_go R ok h1 h2 k⟩
def goesB (vs : List Ve) (left n : Int) : Bool := decide (heirF vs left (n + (vs.length : Int)) - heirF vs left n = (rises vs).sum)
theorem goes_str {vs : List Ve} {left n : Int} (h : Strt vs left n) : goesB vs left n = true := by
  refine decide_eq_true ?_
  unfold Strt at h
  omega
theorem goes_not {vs : List Ve} {left n : Int} (h : ¬ Strt vs left n) : goesB vs left n = false := by
  refine decide_eq_false fun z => h ?_
  unfold Strt
  omega
@[irreducible] def sp_law_goes (K : PySem.W.Frag) : Sp := fun ws H Q _ => ∃ (t : V) (a : Addr) (vs : List Ve) (left N : Int), ws = [t, .ref a, .int N] ∧ Dp K H t (tD vs left) ∧ RhAt K H a vs left ∧ RhOk vs left ∧ left ≤ N ∧ N + (vs.length : Int) ≤ GREAT ∧ ∀ H', Ex H H' → Q (.bl (goesB vs left N)) H'
def t_law_goes_1 (K : PySem.W.Frag) (E : XK) : TS := (tRet (tOp rEq (tOp oSub (tCall (sp_law_at K) [] E0 (tCons (tVar 0) (tCons (tVar 1) (tCons (tOp oAdd (tVar 2) (tVar 3)) tNil)))) (tCall (sp_law_at K) [] E0 (tCons (tVar 0) (tCons (tVar 1) (tCons (tVar 2) tNil))))) (tCB (rSum K) (tCons (tCall (sp_law_rises K) [] E0 (tCons (tVar 0) tNil)) tNil))))

def t_law_goes_0 (K : PySem.W.Frag) (E : XK) : TS := tSeq (tAsg (tCB (cLen K) (tCons (tOp (rIxT K) (tVar 0) (tC (.int 0))) tNil)) (gName 3)) (t_law_goes_1 K E)

theorem pure_law_goes {K : PySem.W.Frag} (ws : List V) (H : Hp) (Q : VK) (E : XK) (h : sp_law_goes K ws H Q E) : t_law_goes_0 K E { nx := fun _ H' => Q .non H', rt := Q } (start ["_law_t", "_law_rhyme", "_law_n", "_law_many"] ws) H := by
  unfold sp_law_goes at h
  obtain ⟨t, a, vs, left, N, rfl, hT, R, ok, h1, h2, k⟩ := h
  have l1 := ok.l1
  obtain ⟨ta, tv, rfl, hs, hv⟩ := tD_at (id hT)
  obtain ⟨b, xs, rfl, hb, hall⟩ := dp_tup (id hv)
  have hl : xs.length = vs.length := by
    have := dpa_len hall
    rw [List.length_map] at this
    exact this
  show t_law_goes_0 K E _ [some (.ref ta), some (.ref a), some (.int N), none] H
  refine ⟨_, rfl, ta, _, 0, _, rfl, rfl, hs, at0, b, xs, rfl, .inr hb, ?_⟩
  rw [hl]
  show t_law_goes_1 K E _ [some (.ref ta), some (.ref a), some (.int N), some (.int (vs.length : Nat))] H
  refine ⟨_, rfl, _, rfl, _, rfl, _, rfl, _, _, rfl, rfl, ?_⟩
  unfold sp_law_at
  refine ⟨_, a, vs, left, _, rfl, hT, R, ok, by omega, h2, fun H1 e1 => ⟨_, rfl, _, rfl, _, rfl, ?_⟩⟩
  refine ⟨_, a, vs, left, _, rfl, dp_ex e1 hT, rh_ex e1 R, ok, h1, by omega, fun H2 e2 => ⟨_, _, rfl, rfl, _, rfl, ?_⟩⟩
  have e12 := ex_trans e1 e2
  unfold sp_law_rises
  refine ⟨_, vs, left, rfl, dp_ex e12 hT, ok, fun q H3 nq e3 hq => ⟨q, _, rfl, SqL.of hq, rfl, ?_⟩⟩
  rw [d_int]
  exact k H3 (ex_trans e12 e3)
@[irreducible] def sp_law_spots (K : PySem.W.Frag) : Sp := fun ws H Q _ => ∃ (d : Addr) (f L m : Int), ws = [.ref d, .int f, .int L, .int m] ∧ DSt H d ∧ 1 ≤ m ∧ m ≤ 4 ∧ f ≤ L ∧ L - f < 2 ^ 190 ∧
  ∀ (p : Addr) (l : List Int) (H' : Hp), DSt H' d → Fx d H H' → p ≠ d → H' p = some (.lst (l.map V.int)) → l.length ≤ 100 → (∀ c ∈ l, ∃ k : Nat, c = f + (k : Int) * m ∧ (k : Int) < (L - f) / m) → Q (.ref p) H'
def t_law_spots_1a_0 (K : PySem.W.Frag) (E : XK) : TS := (tRet (tLc (iRng1 (tCons (tVar 4) tNil)) (gName 6) tYes (tOp oAdd (tVar 1) (tOp oMul (tVar 3) (tVar 6))) [6]))

def t_law_spots_3 (K : PySem.W.Frag) (E : XK) : TS := (tRet (tLc (iList K (tOp rCat (tVar 5) (tLc (iRng1 (tCons (tC (.int 12)) tNil)) (gName 7) tYes (tCall (sp_law_below K) [] E0 (tCons (tVar 0) (tCons (tVar 4) tNil))) [7]))) (gName 6) tYes (tOp oAdd (tVar 1) (tOp oMul (tVar 3) (tVar 6))) [6]))

def t_law_spots_2 (K : PySem.W.Frag) (E : XK) : TS := tSeq (tAsg (tLst (tCons (tC (.int 0)) (tCons (tC (.int 1)) (tCons (tC (.int 2)) (tCons (tC (.int 3)) (tCons (tOp oSub (tVar 4) (tC (.int 1))) (tCons (tOp oSub (tVar 4) (tC (.int 2))) (tCons (tOp oSub (tVar 4) (tC (.int 3))) tNil)))))))) (gName 5)) (t_law_spots_3 K E)

@[irreducible] def t_law_spots_1 (K : PySem.W.Frag) (E : XK) : TS := tSeq (tIfS (tTest (tOp oLt (tVar 4) (tC (.int 40))))
    (t_law_spots_1a_0 K E) tNext) (t_law_spots_2 K E)

def t_law_spots_0 (K : PySem.W.Frag) (E : XK) : TS := tSeq (tAsg (tOp oFdv (tOp oSub (tVar 2) (tVar 1)) (tVar 3)) (gName 4)) (t_law_spots_1 K E)

theorem pure_law_spots {K : PySem.W.Frag} (ws : List V) (H : Hp) (Q : VK) (E : XK) (h : sp_law_spots K ws H Q E) : t_law_spots_0 K E { nx := fun _ H' => Q .non H', rt := Q } (start ["_law_d", "_law_first", "_law_last", "_law_many", "_law_steps", "_law_some", "_law_k", "_law_turn"] ws) H := by
  unfold sp_law_spots at h
  obtain ⟨d, f, L, m, rfl, hD, m1, m4, hf, hb, k⟩ := h
  have h10 : (10001 : Nat) ≤ sizeLine := by decide
  show t_law_spots_0 K E _ [some (.ref d), some (.int f), some (.int L), some (.int m), none, none, none, none] H
  refine ⟨_, rfl, _, rfl, _, _, rfl, rfl, _, rfl, _, _, rfl, rfl, ⟨by omega, by omega⟩, ?_⟩
  have s0 : 0 ≤ (L - f) / m := Int.ediv_nonneg (by omega) (by omega)
  have s1 : (L - f) / m ≤ L - f := Int.ediv_le_self _ (by omega)
  generalize hS : (L - f) / m = S at k s0 s1
  show t_law_spots_1 K E _ [some (.ref d), some (.int f), some (.int L), some (.int m), some (.int ((L - f) / m)), none, none, none] H
  rw [hS]
  unfold t_law_spots_1
  refine if_go (decide (S < 40)) (by walk_at "ans") (fun c => ?_) (fun c => ?_)
  · have c := of_decide_eq_true c
    refine ⟨_, rfl, _, rfl, by omega, by omega, fun p hp => lc_map walk_range (fun i => .int (f + m * (i : Int))) hp (by omega) (fun _ _ => trivial) ?_ ?_⟩
    · rintro i x H3 H4 hi e ⟨rfl, rfl⟩ Q Zf q
      have e0 : (0 : Int) + (i : Int) = i := by omega
      refine ⟨rfl, iteT (B := Zf H4) ⟨_, rfl, _, rfl, _, rfl, _, _, rfl, rfl, (by unfold CMul; omega), _, _, rfl, rfl, ?_⟩⟩
      rw [e0]
      exact q _ (ex_refl _)
    · intro H3 e3 h3
      refine k p ((List.range S.toNat).map fun (i : Nat) => f + m * (i : Int)) H3 (dst_ex e3 hD) (fx_ex e3) (dst_ne hD hp) ?_ ?_ ?_
      · rw [h3, List.map_map]
        rfl
      · rw [List.length_map, List.length_range]
        omega
      · intro x hx
        obtain ⟨i, hi, rfl⟩ := List.mem_map.mp hx
        have := List.mem_range.mp hi
        exact ⟨i, by rw [Int.mul_comm], by omega⟩
  · have c := of_decide_eq_false c
    show t_law_spots_2 K E _ [some (.ref d), some (.int f), some (.int L), some (.int m), some (.int S), none, none, none] H
    refine ⟨_, rfl, _, _, rfl, rfl, _, rfl, _, _, rfl, rfl, _, rfl, _, _, rfl, rfl, (by show 7 ≤ sizeLine; decide), fun p5 hp5 => ?_⟩
    have e5 := ex_new (o := .lst [.int 0, .int 1, .int 2, .int 3, .int (S - 1), .int (S - 2), .int (S - 3)]) hp5
    have h5 : (upd H p5 (.lst [.int 0, .int 1, .int 2, .int 3, .int (S - 1), .int (S - 2), .int (S - 3)])) p5 = some (.lst ([0, 1, 2, 3, S - 1, S - 2, S - 3].map V.int)) := upd_same
    have hD5 := dst_ex e5 hD
    have n5 : p5 ≠ d := dst_ne hD hp5
    generalize (upd H p5 (.lst [.int 0, .int 1, .int 2, .int 3, .int (S - 1), .int (S - 2), .int (S - 3)])) = H5 at e5 h5 hD5
    show t_law_spots_3 K E _ [some (.ref d), some (.int f), some (.int L), some (.int m), some (.int S), some (.ref p5), none, none] H5
    refine ⟨_, rfl, _, rfl, by decide, by decide, fun W hW => lc_it walk_range (fun i H' => DSt H' d ∧ (∀ b o, b ≠ d → b ≠ W → H5 b = some o → H' b = some o) ∧ ∃ acc : List Int, H' W = some (.lst (acc.map V.int)) ∧ acc.length = i ∧ ∀ x ∈ acc, 0 ≤ x ∧ x < S)
      ⟨dst_ex (ex_new hW) hD5, fun b o _ nb e => by rw [upd_ne nb]; exact e, [], upd_same, rfl, fun x hx => nomatch hx⟩ (fun _ _ _ _ => trivial) ?_ ?_⟩
    · rintro i x H3 H4 hi ⟨hD3, f3, acc, h3, ha, hx⟩ ⟨rfl, rfl⟩
      have nWd : W ≠ d := dst_ne hD5 hW
      refine ⟨rfl, ?_⟩
      unfold tYes
      dsimp only
      rw [if_pos rfl]
      refine ⟨_, rfl, _, rfl, ?_⟩
      unfold sp_law_below
      refine ⟨d, S, rfl, hD3, by omega, by omega, fun r H6 r0 r1 hD6 f6 => ⟨_, f6 _ _ nWd h3, by rw [List.length_map]; omega, ?_⟩⟩
      refine ⟨?_, fun b o nd nb e => by rw [upd_ne nb]; exact f6 _ _ nd (f3 b o nd nb e), acc ++ [r], by rw [upd_same, List.map_append]; rfl, by rw [List.length_append, ha]; rfl, fun x hx2 => ?_⟩
      · obtain ⟨a1, a2, a3, a4, a5⟩ := hD6
        exact ⟨a1, a2, a3, by rw [upd_ne nWd.symm]; exact a4, a5⟩
      · rcases List.mem_append.mp hx2 with z | z
        · exact hx x z
        · rw [List.mem_singleton.mp z]
          exact ⟨r0, r1⟩
    · rintro H3 ⟨hD3, f3, acc, h3, ha, hx⟩
      have nWd : W ≠ d := dst_ne hD5 hW
      have n5W : p5 ≠ W := ne_of_none h5 hW
      have g5 := f3 _ _ n5 n5W h5
      refine ⟨p5, W, _, _, rfl, rfl, g5, h3, by rw [List.length_map, List.length_map, ha]; show 7 + 12 ≤ sizeLine; decide, fun p hp => ?_⟩
      rw [← List.map_append]
      have hall : ∀ x ∈ [0, 1, 2, 3, S - 1, S - 2, S - 3] ++ acc, 0 ≤ x ∧ x < S := fun x hx2 => by
        rcases List.mem_append.mp hx2 with z | z
        · simp only [List.mem_cons, List.not_mem_nil, or_false] at z
          omega
        · exact hx x z
      have hlen : ([0, 1, 2, 3, S - 1, S - 2, S - 3] ++ acc).length = 19 := by
        rw [List.length_append, ha]
        rfl
      generalize [0, 1, 2, 3, S - 1, S - 2, S - 3] ++ acc = l at hall hlen
      have e6 := ex_new (o := .lst (l.map V.int)) hp
      have hD6 := dst_ex e6 hD3
      refine ⟨p, rfl, ⟨_, SqL.of upd_same⟩, fun M hM => lc_each V.int 0 l (fun x => .int (f + m * x)) upd_same hM (by omega) (fun _ => rfl) (fun x hx H7 e Q q => ?_) (fun H7 e7 h7 => ?_)⟩
      · exact ⟨_, rfl, _, rfl, _, rfl, _, _, rfl, rfl, .inl ⟨by omega, by omega⟩, _, _, rfl, rfl, q _ (ex_refl _)⟩
      · have fx : Fx d H H7 := fun b o nb e => by
          have nW : b ≠ W := ne_of_none (e5 b o e) hW
          exact e7 b o (e6 b o (f3 b o nb nW (e5 b o e)))
        refine k M (l.map fun x => f + m * x) H7 (dst_ex e7 hD6) fx (dst_ne hD6 hM) ?_ (by rw [List.length_map]; omega) ?_
        · rw [h7, List.map_map]
          rfl
        · intro x hx
          obtain ⟨y, hy, rfl⟩ := List.mem_map.mp hx
          have := hall y hy
          exact ⟨y.toNat, by rw [Int.mul_comm]; congr 2; omega, by omega⟩
@[irreducible] def sp_law_refusedR (K : PySem.W.Frag) : Sp := fun ws H Q _ => ∃ (a : Addr) (vs : List Ve) (left : Int) (v : V) (e : PyData), ws = [.ref a, v] ∧ RhAt K H a vs left ∧ RhOk vs left ∧ Dp K H v e ∧ isBet e left GREAT = false ∧ ∀ H', Ex H H' → Q (.bl true) H'
def t_law_refusedR_1a_0 (K : PySem.W.Frag) (W : WX) (E : XK) : TS := (tDrop (tCallSD (sp_run K) [] (WE W) (tCons (tVar 0) (tCons (tVar 1) tNil))))

def t_law_refusedR_1h0_0 (K : PySem.W.Frag) (E : XK) : TS := (tAsg (tC (.bl true)) (gName 2))

def t_law_refusedR_2 (K : PySem.W.Frag) (E : XK) : TS := (tRet (tVar 2))

@[irreducible] def t_law_refusedR_1 (K : PySem.W.Frag) (E : XK) : TS := tSeq (tTry K (fun W => (t_law_refusedR_1a_0 K W E)) E [(.ref (He.ga K "BadNumber"), fun _ _ _ => (t_law_refusedR_1h0_0 K E))]) (t_law_refusedR_2 K E)

def t_law_refusedR_0 (K : PySem.W.Frag) (E : XK) : TS := tSeq (tAsg (tC (.bl false)) (gName 2)) (t_law_refusedR_1 K E)

theorem pure_law_refusedR {K : PySem.W.Frag} (X : PySem.W.exmOne K (BN K "BadNumber") (BN K "BadNumber") = some true) (ws : List V) (H : Hp) (Q : VK) (E : XK) (h : sp_law_refusedR K ws H Q E) : t_law_refusedR_0 K E { nx := fun _ H' => Q .non H', rt := Q } (start ["_law_rhyme", "_law_n", "_law_told"] ws) H := by
  unfold sp_law_refusedR at h
  obtain ⟨a, vs, left, v, e, rfl, R, ok, hd, hb, k⟩ := h
  show t_law_refusedR_1 K E { nx := fun _ H' => Q .non H', rt := Q } [some (.ref a), some v, some (.bl false)] H
  unfold t_law_refusedR_1
  refine ⟨_, rfl, _, rfl, ?_⟩
  unfold sp_run
  refine ⟨a, vs, left, v, e, rfl, R, ok, hd, fun _ => many_0 X fun _ _ => ⟨_, rfl, k H (ex_refl H)⟩, fun n en h1 h2 => ?_⟩
  rw [en, isBet_of h1 h2] at hb
  cases hb

end Z
namespace Z
open PySem PySem.Spec PyProof.Rows L2
local macro_rules | `(tactic| walk_at "look") => `(tactic| first | assumption | exact upd_same | exact SqL.of (by assumption) | exact SqT.of (by assumption) | exact SqL.of upd_same | exact SqT.of upd_same)
local macro_rules | `(tactic| walk_at "at") => `(tactic| first | exact at0 | exact at1 | exact at2 | exact at3 | exact ix0 | exact ix1 | assumption | exact atI_nat (by rfl))
local macro_rules | `(tactic| walk_at "sd") => `(tactic| ((try dsimp only); first | assumption | omega | (unfold CMul; omega) | (unfold CDiv; omega) | (unfold CPow; decide) | decide))
local macro_rules | `(tactic| walk_at "st") => `(tactic| first
  | (refine ⟨_, rfl, ?_⟩)
  | (refine ⟨_, _, rfl, rfl, ?_⟩)
  | (refine ⟨rfl, ?_⟩)
  | (refine .inl ⟨_, rfl, ?_⟩)
  | (refine ⟨_, _, _, _, rfl, rfl, (by walk_at "look"), (by walk_at "at"), ?_⟩)
  | (refine ⟨_, _, rfl, .inl (by walk_at "look"), ?_⟩)
  | (refine And.intro (by walk_at "sd") ?_)
  | fail "no step")
local macro_rules | `(tactic| walk_at "go") => `(tactic| repeat' (walk_at "st"))
local macro_rules | `(tactic| walk_at "ans") => `(tactic| (intro Q q; (repeat' (walk_at "st")); exact q))

@[irreducible] def sp_law (K : PySem.W.Frag) : Sp := fun ws H Q _ => ∃ (a : Addr) (ns : List Int), ws = [.ref a] ∧ SqL K H a (ns.map V.int) ∧ ns.length ≤ 63 ∧ ∀ H', Q (.bl true) H'
def t_law_6a_0 (K : PySem.W.Frag) (E : XK) : TS := (tRet (tC (.bl false)))

def t_law_8a_0 (K : PySem.W.Frag) (E : XK) : TS := (tRet (tC (.bl false)))

def t_law_9a_0 (K : PySem.W.Frag) (E : XK) : TS := (tRet (tC (.bl false)))

def t_law_10a_0 (K : PySem.W.Frag) (E : XK) : TS := (tAsg (tOp oSub (tCB (rMax K) (tCons (tLst (tCons (tVar 5) (tCons (tOp oPow (tC (.int 10)) (tC (.int 29))) tNil))) tNil)) (tOp oMod (tOp oSub (tCB (rMax K) (tCons (tLst (tCons (tVar 5) (tCons (tOp oPow (tC (.int 10)) (tC (.int 29))) tNil))) tNil)) (tVar 7)) (tVar 4))) (gName 8))

def t_law_10b_0a_0 (K : PySem.W.Frag) (E : XK) : TS := (tRet (tC (.bl false)))

@[irreducible] def t_law_10b_0 (K : PySem.W.Frag) (E : XK) : TS := (tIfS (tOr (tTest (tOp oLt (tVar 8) (tVar 5))) (tOr (tTest (tOp rNe (tOp oMod (tOp oSub (tVar 8) (tVar 7)) (tVar 4)) (tC (.int 0)))) (tAnd (tTest (tOp oLe (tOp oAdd (tVar 8) (tVar 4)) (tOp oPow (tC (.int 10)) (tC (.int 30))))) (tB (tCall (sp_law_goes K) [] E0 (tCons (tVar 2) (tCons (tVar 3) (tCons (tVar 8) tNil))))))))
    (t_law_10b_0a_0 K E) tNext)

def t_law_12a_0 (K : PySem.W.Frag) (E : XK) : TS := (tRet (tC (.bl false)))

def t_law_13 (K : PySem.W.Frag) (E : XK) : TS := (tRet (tCall (sp_law_refusedR K) [] E0 (tCons (tVar 3) (tCons (tCall (sp_law_pick K) [] E0 (tCons (tVar 1) (tCons (tLst (tCons (tOp oSub (tOp (rIxT K) (tVar 2) (tC (.int 1))) (tC (.int 1))) (tCons (tC .non) (tCons (tC (.bl true)) (tCons (tC (.str "9")) (tCons (tOp oAdd (tOp oPow (tC (.int 10)) (tC (.int 30))) (tC (.int 1))) (tCons (tTup (tCons (tC (.int 9)) tNil)) tNil))))))) tNil))) tNil))))

@[irreducible] def t_law_12 (K : PySem.W.Frag) (E : XK) : TS := tSeq (tIfS (tNot (tB (tCB (rAll K) (tCons (tLc (iList K (tVar 9)) (gName 10) tYes (tCall (sp_law_goes K) [] E0 (tCons (tVar 2) (tCons (tVar 3) (tCons (tVar 10) tNil)))) [10]) tNil))))
    (t_law_12a_0 K E) tNext) (t_law_13 K E)

def t_law_11 (K : PySem.W.Frag) (E : XK) : TS := tSeq (tAsg (tLc (iList K (tCall (sp_law_spots K) [] E0 (tCons (tVar 1) (tCons (tVar 7) (tCons (tVar 8) (tCons (tVar 4) tNil)))))) (gName 10) (tTest (tOp oLe (tOp oAdd (tVar 10) (tVar 4)) (tOp oPow (tC (.int 10)) (tC (.int 30))))) (tVar 10) [10]) (gName 9)) (t_law_12 K E)

@[irreducible] def t_law_10 (K : PySem.W.Frag) (E : XK) : TS := tSeq (tIfS (tTest (tOp oIsN (tVar 8) (tC .non)))
    (t_law_10a_0 K E) (t_law_10b_0 K E)) (t_law_11 K E)

@[irreducible] def t_law_9 (K : PySem.W.Frag) (E : XK) : TS := tSeq (tIfS (tAnd (tTest (tOp oGe (tOp oSub (tVar 7) (tVar 4)) (tOp (rIxT K) (tVar 2) (tC (.int 1))))) (tB (tCall (sp_law_goes K) [] E0 (tCons (tVar 2) (tCons (tVar 3) (tCons (tOp oSub (tVar 7) (tVar 4)) tNil))))))
    (t_law_9a_0 K E) tNext) (t_law_10 K E)

@[irreducible] def t_law_8 (K : PySem.W.Frag) (E : XK) : TS := tSeq (tIfS (tOr (tNot (tTest (tChain oLe oLe (tOp (rIxT K) (tVar 2) (tC (.int 1))) (tVar 7) (tVar 5)))) (tTest (tOp rNe (tOp oMod (tOp oSub (tVar 5) (tVar 7)) (tVar 4)) (tC (.int 0)))))
    (t_law_8a_0 K E) tNext) (t_law_9 K E)

def t_law_7 (K : PySem.W.Frag) (E : XK) : TS := tSeq (tAsg (tVar 6) (gTup K 2 (gCons (gName 7) (gCons (gName 8) gNil)))) (t_law_8 K E)

@[irreducible] def t_law_6 (K : PySem.W.Frag) (E : XK) : TS := tSeq (tIfS (tOr (tNot (tB (tCB (rIsi K) (tCons (tVar 6) (tCons (tC (.ty "tuple")) tNil))))) (tOr (tTest (tOp rNe (tCB (cLen K) (tCons (tVar 6) tNil)) (tC (.int 2)))) (tNot (tB (tCall (sp_law_equal 4 K) [] E0 (tCons (tCall (sp_run K) [] E0 (tCons (tVar 3) (tCons (tOp (rIxT K) (tVar 6) (tC (.int 0))) tNil))) (tCons (tVar 6) tNil)))))))
    (t_law_6a_0 K E) tNext) (t_law_7 K E)

def t_law_5 (K : PySem.W.Frag) (E : XK) : TS := tSeq (tAsg (tCall (sp_run K) [] E0 (tCons (tVar 3) (tCons (tVar 5) tNil))) (gName 6)) (t_law_6 K E)

def t_law_4 (K : PySem.W.Frag) (E : XK) : TS := tSeq (tAsg (tIf (tTest (tOp oGt (tCall (sp_law_below K) [] E0 (tCons (tVar 1) (tCons (tC (.int 3)) tNil))) (tC (.int 0)))) (tCall (sp_law_number K) [] E0 (tCons (tVar 1) (tCons (tVar 2) (tCons (tC (.int 60)) tNil)))) (tCB (rMin K) (tCons (tLst (tCons (tCall (sp_law_great K) [] E0 (tCons (tVar 1) tNil)) (tCons (tOp oSub (tOp oPow (tC (.int 10)) (tC (.int 30))) (tC (.int 60))) tNil))) tNil))) (gName 5)) (t_law_5 K E)

def t_law_3 (K : PySem.W.Frag) (E : XK) : TS := tSeq (tAsg (tCB (cLen K) (tCons (tOp (rIxT K) (tVar 2) (tC (.int 0))) tNil)) (gName 4)) (t_law_4 K E)

def t_law_2 (K : PySem.W.Frag) (E : XK) : TS := tSeq (tAsg (tCall (sp_law_made K) [] E0 (tCons (tVar 2) tNil)) (gName 3)) (t_law_3 K E)

def t_law_1 (K : PySem.W.Frag) (E : XK) : TS := tSeq (tAsg (tCall (sp_law_drawn K) [] E0 (tCons (tVar 1) tNil)) (gName 2)) (t_law_2 K E)

def t_law_0 (K : PySem.W.Frag) (E : XK) : TS := tSeq (tAsg (tCall (sp_law_random K) [] E0 (tCons (tVar 0) (tCons (tC (.int 903)) tNil))) (gName 1)) (t_law_1 K E)

section
variable {K : PySem.W.Frag} {E : XK} {D : Ends} {H H' : Hp} {d a : Addr} {t : V} {x0 : Option V} {vs : List Ve} {left n : Int} {Q : VK}
theorem run_go {E : XK} (R : RhAt K H a vs left) (ok : RhOk vs left) (h1 : left ≤ n) (h2 : n ≤ GREAT) (q : ∀ (first : Int) (last : Option Int) (p : Addr) (H' : Hp), RunOk vs left n first last → H p = none → Ex H H' → H' p = some (.tup [.int first, oV last]) → Q (.ref p) H') : sp_run K ([.ref a, .int n] ++ []) H Q E := by
  unfold sp_run
  refine ⟨a, vs, left, _, .int n, rfl, R, ok, .int _, bet_no h1 h2, fun n' en _ _ => ?_⟩
  have := PyData.int.inj en
  subst this
  exact q
theorem goes_go {E : XK} {b : Bool} (T : Dp K H t (tD vs left)) (R : RhAt K H a vs left) (ok : RhOk vs left) (h1 : left ≤ n) (h2 : n + (vs.length : Int) ≤ GREAT) (e : goesB vs left n = b) (q : ∀ H', Ex H H' → Q (.bl b) H') : sp_law_goes K ([t, .ref a, .int n] ++ []) H Q E := by
  subst e
  unfold sp_law_goes
  exact ⟨t, a, vs, left, n, rfl, T, R, ok, h1, h2, q⟩
theorem law_13 {u4 u5 u6 u7 u8 u9 u10 : Option V} (s : S2 K H d t a vs left) (ok : RhOk vs left) (k : ∀ H', D.rt (.bl true) H') :
    t_law_13 K E D [x0, some (.ref d), some t, some (.ref a), u4, u5, u6, u7, u8, u9, u10] H := by
  have lf := ok.lf
  have hg : (10 : Int) ^ (30 : Int).toNat = GREAT := by decide
  obtain ⟨ta, tv, rfl, hs, hv⟩ := tD_at s.hT
  refine ⟨_, rfl, _, rfl, _, rfl, ta, _, 1, _, rfl, rfl, hs, at1, _, _, rfl, rfl, 10, 30, rfl, rfl, ⟨by decide, by decide, by decide⟩, _, _, rfl, rfl, (by show 1 ≤ sizeLine; decide), fun p5 hp5 => ?_⟩
  have e5 := ex_new (o := .tup [.int 9]) hp5
  refine ⟨(by show 6 ≤ sizeLine; decide), fun p6 hp6 => ?_⟩
  have e6 := ex_new (o := .lst [.int (left - 1), .non, .bl true, .str "9", .int ((10 : Int) ^ (30 : Int).toNat + 1), .ref p5]) hp6
  have s6 := s.ex (ex_trans e5 e6)
  refine pick_go (ds := [.int (left - 1), .none, .bool true, .str "9", .int ((10 : Int) ^ (30 : Int).toNat + 1), .tuple [.int 9]]) s6.hD upd_same (dst_ne (s.ex e5).hD hp6)
    (.cons (.int _) (.cons .non (.cons (.bl _) (.cons (.str _) (.cons (.int _) (.cons (.tup (SqT.of (e6 _ _ upd_same)) (.cons (.int _) .nil)) .nil)))))) rfl (by simp) (by show 6 ≤ 1000; decide) fun v e H1 he hv2 hD1 f1 => ?_
  have s7 := s6.fx f1 hD1
  unfold sp_law_refusedR
  refine ⟨a, vs, left, v, e, rfl, s7.hR, ok, hv2, ?_, fun H2 _ => k H2⟩
  simp only [List.mem_cons, List.not_mem_nil, or_false] at he
  rcases he with rfl | rfl | rfl | rfl | rfl | rfl
  all_goals first | rfl | exact isBet_lo (by omega) | exact isBet_hi (by rw [hg]; omega)
/-- the spots of a stretch over which it goes straight -/
theorem law_11 {u5 u6 u9 : Option V} {f L : Int} (s : S2 K H d t a vs left) (ok : RhOk vs left) (hf : left ≤ f) (hL : f ≤ L) (hb : L - f < 2 ^ 190) (hs : ∀ k : Nat, (k : Int) < (L - f) / (vs.length : Int) → Strt vs left (f + (k : Int) * (vs.length : Int))) (k : ∀ H', D.rt (.bl true) H') :
    t_law_11 K E D [x0, some (.ref d), some t, some (.ref a), some (.int (vs.length : Nat)), u5, u6, some (.int f), some (.int L), u9, none] H := by
  have l1 := ok.l1
  have l4 := ok.l4
  have h10 : (10001 : Nat) ≤ sizeLine := by decide
  have hg : (10 : Int) ^ (30 : Int).toNat = GREAT := by decide
  refine ⟨_, rfl, _, rfl, _, rfl, _, rfl, ?_⟩
  unfold sp_law_spots
  refine ⟨d, f, L, _, rfl, s.hD, by omega, by omega, hL, hb, fun p l H1 hD1 f1 np hp hl hall => ?_⟩
  have s1 := s.fx f1 hD1
  refine ⟨p, rfl, ⟨_, SqL.of hp⟩, fun W hW => lc_over V.int 0 l (fun c => decide (c + (vs.length : Int) ≤ GREAT)) V.int hp hW (by omega) (fun _ => rfl) (fun c hc H4 e Q Zf q1 q2 => ?_) (fun H4 e4 h4 => ?_)⟩
  · refine ⟨_, rfl, _, rfl, _, _, rfl, rfl, 10, 30, rfl, rfl, ⟨by decide, by decide, by decide⟩, _, _, rfl, rfl, _, rfl, ?_⟩
    rw [hg]
    cases hw : decide (c + (vs.length : Int) ≤ GREAT) with
    | true => exact iteT' rfl ⟨_, rfl, q1 hw _ (ex_refl _)⟩
    | false => exact iteF' rfl (q2 hw _ (ex_refl _))
  have s4 := s1.ex e4
  have hall2 : ∀ c ∈ l.filter (fun c => decide (c + (vs.length : Int) ≤ GREAT)), left ≤ c ∧ c + (vs.length : Int) ≤ GREAT ∧ goesB vs left c = true := fun c hc => by
    obtain ⟨h1, h2⟩ := List.mem_filter.mp hc
    obtain ⟨j, rfl, hj⟩ := hall c h1
    have : (0 : Int) ≤ (j : Int) * (vs.length : Int) := Int.mul_nonneg (by omega) (by omega)
    exact ⟨by omega, of_decide_eq_true h2, goes_str (hs j hj)⟩
  have hlen : (l.filter (fun c => decide (c + (vs.length : Int) ≤ GREAT))).length ≤ 100 := Nat.le_trans (List.length_filter_le ..) hl
  generalize l.filter (fun c => decide (c + (vs.length : Int) ≤ GREAT)) = l2 at h4 hall2 hlen
  show t_law_12 K E D [x0, some (.ref d), some t, some (.ref a), some (.int (vs.length : Nat)), u5, u6, some (.int f), some (.int L), some (.ref W), none] H4
  unfold t_law_12
  refine if_goH false (fun Q z => ?_) (fun _ _ z => nomatch z) (fun H5 e5 _ => law_13 (E := E) (s4.ex e5) ok k)
  refine ⟨_, rfl, W, rfl, ⟨_, SqL.of h4⟩, fun M hM => lc_each V.int 0 l2 (fun c => .bl (goesB vs left c)) h4 hM (by omega) (fun _ => rfl) (fun c hc H6 e Q q => ?_) (fun H6 e6 h6 => ?_)⟩
  · obtain ⟨g1, g2, g3⟩ := hall2 c hc
    exact ⟨_, rfl, _, rfl, _, rfl, goes_go (dp_ex e s4.hT) (rh_ex e s4.hR) ok g1 g2 rfl q⟩
  · have h6 : H6 M = some (.lst ((l2.map (goesB vs left)).map V.bl)) := by
      rw [h6, List.map_map]
      rfl
    refine ⟨M, _, rfl, SqL.of h6, _, rfl, ?_⟩
    have e : (l2.map (goesB vs left)).all id = true := List.all_eq_true.mpr fun b hb => by
      obtain ⟨c, hc, rfl⟩ := List.mem_map.mp hb
      exact (hall2 c hc).2.2
    rw [e]
    exact z H6 e6
theorem law_9 {u6 u9 : Option V} {f : Int} {last : Option Int} (s : S2 K H d t a vs left) (ok : RhOk vs left) (h1 : left ≤ n) (h2 : n ≤ GREAT) (r : RunOk vs left n f last) (k : ∀ H', D.rt (.bl true) H') :
    t_law_9 K E D [x0, some (.ref d), some t, some (.ref a), some (.int (vs.length : Nat)), some (.int n), u6, some (.int f), some (oV last), u9, none] H := by
  have l1 := ok.l1
  have l4 := ok.l4
  have hfn := run_fn r
  have lo := r.lo
  have lf := ok.lf
  have hg : (10 : Int) ^ (30 : Int).toNat = GREAT := by decide
  have hg29 : (10 : Int) ^ (29 : Int).toNat ≤ GREAT := by decide
  obtain ⟨ta, tv, rfl, hs, hv⟩ := tD_at s.hT
  unfold t_law_9
  refine if_goH false (fun Q z => ?_) (fun _ _ z => nomatch z) (fun H1 e1 _ => ?_)
  · refine ⟨_, rfl, _, rfl, _, _, rfl, rfl, _, rfl, ta, _, 1, _, rfl, rfl, hs, at1, _, _, rfl, rfl, _, rfl, ?_⟩
    by_cases c : left ≤ f - (vs.length : Int)
    · refine iteT' (decide_eq_true c) ⟨_, rfl, _, rfl, _, rfl, _, rfl, _, _, rfl, rfl, goes_go s.hT s.hR ok c (by omega) (goes_not (r.mx c)) fun H2 e2 => ⟨_, rfl, z H2 e2⟩⟩
    · exact iteF' (decide_eq_false c) (z H (ex_refl H))
  have s1 := s.ex e1
  show t_law_10 K E D [x0, some (.ref d), some (.ref ta), some (.ref a), some (.int (vs.length : Nat)), some (.int n), u6, some (.int f), some (oV last), u9, none] H1
  have hs1 := sqt_ex e1 hs
  cases last with
  | none =>
    have inf := r.inf rfl
    have mx : n ≤ max n ((10 : Int) ^ (29 : Int).toNat) ∧ max n ((10 : Int) ^ (29 : Int).toNat) ≤ GREAT := by
      rw [Int.max_def]; split <;> omega
    generalize hM : max n ((10 : Int) ^ (29 : Int).toNat) = M at mx
    have m0 := Int.emod_nonneg (M - f) (show (vs.length : Int) ≠ 0 by omega)
    have m1 := Int.emod_lt_of_pos (M - f) (show (0 : Int) < (vs.length : Int) by omega)
    have m2 : (M - f) % (vs.length : Int) ≤ M - f := by
      have := Int.mul_ediv_add_emod (M - f) (vs.length : Int)
      have : 0 ≤ (vs.length : Int) * ((M - f) / (vs.length : Int)) := Int.mul_nonneg (by omega) (Int.ediv_nonneg (by omega) (by omega))
      omega
    have gG : GREAT < 2 ^ 190 := by decide
    unfold t_law_10
    refine if_go true (fun Q q => ⟨_, rfl, rfl, _, rfl, q⟩) (fun _ => ?_) (fun z => nomatch z)
    refine ⟨_, rfl, 10, 29, rfl, rfl, ⟨by decide, by decide, by decide⟩, (by show 2 ≤ sizeLine; decide), fun p1 hp1 => ?_⟩
    have e2 := ex_new (o := .lst [.int n, .int ((10 : Int) ^ (29 : Int).toNat)]) hp1
    dsimp only [tNil]
    refine max_go upd_same ?_
    refine ⟨_, rfl, 10, 29, rfl, rfl, ⟨by decide, by decide, by decide⟩, (by show 2 ≤ sizeLine; decide), fun p2 hp2 => ?_⟩
    have e3 := ex_new (o := .lst [.int n, .int ((10 : Int) ^ (29 : Int).toNat)]) hp2
    dsimp only [tNil]
    refine max_go upd_same ?_
    rw [hM]
    refine ⟨_, rfl, _, _, rfl, rfl, _, rfl, _, _, rfl, rfl, (by omega), _, _, rfl, rfl, ?_⟩
    show t_law_11 K E D [x0, some (.ref d), some (.ref ta), some (.ref a), some (.int (vs.length : Nat)), some (.int n), u6, some (.int f), some (.int (M - (M - f) % (vs.length : Int))), u9, none] _
    exact law_11 (s1.ex (ex_trans e2 e3)) ok lo (by omega) (by omega) (fun j _ => inf j) k
  | some L =>
    obtain ⟨j, ej, hj, hst, hn⟩ := r.fin L rfl
    have hbd := run_bound ok r
    have hm : (0 : Int) ≤ (j : Int) * (vs.length : Int) := Int.mul_nonneg (by omega) (by omega)
    have gG : 5 * GREAT + 1000 < 2 ^ 190 := by decide
    have ed : (L - f) / (vs.length : Int) = (j : Int) := by
      rw [ej]
      have : f + (j : Int) * (vs.length : Int) - f = (j : Int) * (vs.length : Int) := by omega
      rw [this]
      exact Int.mul_ediv_cancel _ (by omega)
    have em : (L - f) % (vs.length : Int) = 0 := by
      rw [ej]
      have : f + (j : Int) * (vs.length : Int) - f = (j : Int) * (vs.length : Int) := by omega
      rw [this]
      exact Int.mul_emod_left _ _
    unfold t_law_10
    refine if_go false (fun Q q => ⟨_, rfl, rfl, _, rfl, q⟩) (fun z => nomatch z) (fun _ => ?_)
    unfold t_law_10b_0
    refine if_goH false (fun Q z => ?_) (fun _ _ z => nomatch z) (fun H2 e2 _ => ?_)
    · refine ⟨_, rfl, _, rfl, _, _, rfl, rfl, _, rfl, iteF' (decide_eq_false (by omega)) ?_⟩
      refine ⟨_, rfl, _, rfl, _, _, rfl, rfl, _, rfl, _, _, rfl, rfl, (by omega), rfl, _, rfl, ?_⟩
      have ee : (!decide (V.int ((L - f) % (vs.length : Int)) = V.int 0)) = false := by
        rw [d_int, em]
        rfl
      refine iteF' ee ?_
      refine ⟨_, rfl, _, rfl, _, _, rfl, rfl, 10, 30, rfl, rfl, ⟨by decide, by decide, by decide⟩, _, _, rfl, rfl, _, rfl, ?_⟩
      rw [hg]
      by_cases c : L + (vs.length : Int) ≤ GREAT
      · exact iteT' (decide_eq_true c) ⟨_, rfl, _, rfl, _, rfl, goes_go s1.hT s1.hR ok (by omega) c (goes_not hn) fun H3 e3 => ⟨_, rfl, z H3 e3⟩⟩
      · exact iteF' (decide_eq_false c) (z H1 (ex_refl H1))
    · show t_law_11 K E D [x0, some (.ref d), some (.ref ta), some (.ref a), some (.int (vs.length : Nat)), some (.int n), u6, some (.int f), some (.int L), u9, none] H2
      exact law_11 (s1.ex e2) ok lo (by omega) (by omega) (fun i hi => hst i (by rw [ed] at hi; omega)) k
theorem dOpt_at {H : Hp} (o : Option Int) : Dp K H (oV o) (dOpt o) := by
  cases o with
  | none => exact .non
  | some i => exact .int i
theorem law_5 {u6 u7 u8 u9 : Option V} (s : S2 K H d t a vs left) (ok : RhOk vs left) (h1 : left ≤ n) (h2 : n ≤ GREAT) (k : ∀ H', D.rt (.bl true) H') :
    t_law_5 K E D [x0, some (.ref d), some t, some (.ref a), some (.int (vs.length : Nat)), some (.int n), u6, u7, u8, u9, none] H := by
  have l1 := ok.l1
  refine ⟨_, rfl, _, rfl, run_go s.hR ok h1 h2 fun f last p H1 r np e1 hp => ?_⟩
  have s1 := s.ex e1
  have lo := r.lo
  have hfn := run_fn r
  have hdp : ∀ {H' : Hp}, H' p = some (.tup [.int f, oV last]) → Dp K H' (.ref p) (.tuple [.int f, dOpt last]) := fun h => .tup (SqT.of h) (.cons (.int _) (.cons (dOpt_at last) .nil))
  show t_law_6 K E D [x0, some (.ref d), some t, some (.ref a), some (.int (vs.length : Nat)), some (.int n), some (.ref p), u7, u8, u9, none] H1
  unfold t_law_6
  refine if_goH false (fun Q z => ?_) (fun _ _ z => nomatch z) (fun H2 e2 _ => ?_)
  · refine ⟨_, rfl, ?_⟩
    dsimp only [tCons, tNil, tC]
    refine isi_go (c := "tuple") (b := true) (hdp hp) (show kitB "tuple" "tuple" = some true by decide +kernel) ⟨_, rfl, iteF' rfl ?_⟩
    refine ⟨_, rfl, p, _, rfl, .inr (SqT.of hp), rfl, _, rfl, iteF' rfl ?_⟩
    refine ⟨_, rfl, _, rfl, p, _, 0, _, rfl, rfl, SqT.of hp, at0, run_go s1.hR ok lo (by omega) fun g last2 p2 H2 r2 np2 e2 hp2 => ⟨_, rfl, ?_⟩⟩
    obtain ⟨eg, el⟩ := run_uniq ok r2 (run_first ok r)
    subst eg el
    refine equal_go (d := .tuple [.int g, dOpt last2]) (.tup (SqT.of hp2) (.cons (.int _) (.cons (dOpt_at last2) .nil))) (hdp (e2 _ _ hp)) ?_ fun H3 e3 => ⟨_, rfl, z H3 (ex_trans e2 e3)⟩
    refine ⟨by show 2 ≤ 10000; decide, fun x hx => ?_⟩
    rcases List.mem_cons.mp hx with h | h
    · rw [h]; trivial
    · rw [List.mem_singleton.mp h]
      cases last2 <;> trivial
  have hp2 := e2 _ _ hp
  show t_law_7 K E D [x0, some (.ref d), some t, some (.ref a), some (.int (vs.length : Nat)), some (.int n), some (.ref p), u7, u8, u9, none] H2
  refine ⟨_, rfl, p, _, rfl, SqT.of hp2, rfl, _, _, rfl, _, _, rfl, rfl, ?_⟩
  have s2 := s1.ex e2
  obtain ⟨j, ej⟩ := r.al
  have em : (n - f) % (vs.length : Int) = 0 := by
    rw [ej]
    have : f + (j : Int) * (vs.length : Int) - f = (j : Int) * (vs.length : Int) := by omega
    rw [this]
    exact Int.mul_emod_left _ _
  obtain ⟨ta, tv, rfl, hs, hv⟩ := tD_at s2.hT
  show t_law_8 K E D [x0, some (.ref d), some (.ref ta), some (.ref a), some (.int (vs.length : Nat)), some (.int n), some (.ref p), some (.int f), some (oV last), u9, none] H2
  unfold t_law_8
  refine if_go false (fun Q z => ?_) (fun z => nomatch z) (fun _ => ?_)
  · refine ⟨_, rfl, ta, _, 1, _, rfl, rfl, hs, at1, _, rfl, _, _, rfl, rfl, _, rfl, iteT' (decide_eq_true lo) ⟨_, rfl, _, _, rfl, rfl, _, rfl, ?_⟩⟩
    rw [decide_eq_true hfn]
    refine iteF' rfl ?_
    refine ⟨_, rfl, _, rfl, _, _, rfl, rfl, _, rfl, _, _, rfl, rfl, (by omega), rfl, _, rfl, ?_⟩
    have ee : (!decide (V.int ((n - f) % (vs.length : Int)) = V.int 0)) = false := by
      rw [d_int, em]
      rfl
    show Q (!decide (V.int ((n - f) % (vs.length : Int)) = V.int 0)) H2
    rw [ee]
    exact z
  · show t_law_9 K E D [x0, some (.ref d), some (.ref ta), some (.ref a), some (.int (vs.length : Nat)), some (.int n), some (.ref p), some (.int f), some (oV last), u9, none] H2
    exact law_9 s2 ok h1 h2 r k
end
theorem pure_law {K : PySem.W.Frag} (ws : List V) (H : Hp) (Q : VK) (E : XK) (h : sp_law K ws H Q E) : t_law_0 K E { nx := fun _ H' => Q .non H', rt := Q } (start ["_law_script", "_law_d", "_law_t", "_law_rhyme", "_law_many", "_law_n", "_law_told", "_law_first", "_law_last", "_law_spots_here", "_law_spot"] ws) H := by
  unfold sp_law at h
  obtain ⟨b0, ns, rfl, hS, hn, k⟩ := h
  show t_law_0 K E _ [some (.ref b0), none, none, none, none, none, none, none, none, none, none] H
  refine ⟨_, rfl, ?_⟩
  unfold sp_law_random
  refine ⟨b0, ns, 903, rfl, hS, hn, by decide, by decide, fun d H1 hd e1 hD => ?_⟩
  refine ⟨_, rfl, ?_⟩
  unfold sp_law_drawn
  refine ⟨d, rfl, hD, fun t vs l H2 ok hT hD2 f2 => ?_⟩
  refine ⟨_, rfl, ?_⟩
  unfold sp_law_made
  refine ⟨t, vs, l, rfl, hT, ok, fun a H4 ha e4 R => ?_⟩
  have s : S2 K H4 d t a vs l := ⟨dst_ex e4 hD2, dp_ex e4 hT, R, dst_ne hD2 ha⟩
  have lf := ok.lf
  have l4 := ok.l4
  have hg : (10 : Int) ^ (30 : Int).toNat = GREAT := by decide
  have hG : (100060 : Int) ≤ GREAT := by decide
  obtain ⟨ta, tv, rfl, hs, hv⟩ := tD_at s.hT
  obtain ⟨b, xs, rfl, hb, hall⟩ := dp_tup (id hv)
  have hl : xs.length = vs.length := by
    have := dpa_len hall
    rw [List.length_map] at this
    exact this
  show t_law_3 K E _ [some (.ref b0), some (.ref d), some (.ref ta), some (.ref a), none, none, none, none, none, none, none] H4
  refine ⟨_, rfl, ta, _, 0, _, rfl, rfl, hs, at0, b, xs, rfl, .inr hb, ?_⟩
  rw [hl]
  show t_law_4 K E _ [some (.ref b0), some (.ref d), some (.ref ta), some (.ref a), some (.int (vs.length : Nat)), none, none, none, none, none, none] H4
  refine ⟨_, rfl, ?_⟩
  unfold sp_law_below
  refine ⟨d, 3, rfl, s.hD, by decide, by decide, fun r H5 r0 r1 hD5 f5 => ⟨_, _, rfl, rfl, _, rfl, ?_⟩⟩
  have s5 := s.fx f5 hD5
  by_cases c : 0 < r
  · refine iteT' (decide_eq_true c) ⟨_, rfl, _, rfl, ?_⟩
    unfold sp_law_number
    refine ⟨d, _, vs, l, 60, rfl, s5.hD, s5.hT, ok, by omega, by decide, fun n H6 n0 n1 hD6 f6 => ?_⟩
    exact law_5 (E := E) (s5.fx f6 hD6) ok n0 (by omega) k
  · refine iteF' (decide_eq_false c) ⟨_, rfl, ?_⟩
    unfold sp_law_great
    refine ⟨d, rfl, s5.hD, fun n H6 n0 n1 hD6 f6 => ⟨10, 30, rfl, rfl, ⟨by decide, by decide, by decide⟩, _, _, rfl, rfl, (by show 2 ≤ sizeLine; decide), fun pm hpm => ?_⟩⟩
    dsimp only [tNil]
    refine min_go upd_same ?_
    rw [hg]
    have hm : 100000 ≤ min n (GREAT - 60) ∧ min n (GREAT - 60) ≤ GREAT := by
      rw [Int.min_def]; split <;> omega
    show t_law_5 K E _ [some (.ref b0), some (.ref d), some (.ref ta), some (.ref a), some (.int (vs.length : Nat)), some (.int (min n (GREAT - 60))), none, none, none, none, none] _
    exact law_5 (E := E) ((s5.fx f6 hD6).ex (ex_new hpm)) ok (by omega) (by omega) k
theorem law_pre {K : PySem.W.Frag} {H : Hp} (a : Addr) (ns : List Int) (hS : SqL K H a (ns.map V.int)) (hn : ns.length ≤ 63) : sp_law K [.ref a] H (fun v _ => v = .bl true) fun _ _ _ => False := by
  unfold sp_law
  exact ⟨a, ns, rfl, hS, hn, fun _ => rfl⟩

end Z
namespace Z
open PySem PySem.Spec PyProof.Rows L2
local macro_rules | `(tactic| walk_at "len") => `(tactic| repeat (first | (obtain ⟨rfl, _⟩ := ‹_ ∧ _›; rfl) | (rename_i h; obtain ⟨_, h⟩ := h)))
def top (i : Nat) : Stmt := PySem.Challenge.pw_outrhymes_k03_whole_runs.main.body.getD i (.Pass ⟨0, 0, 0, 0⟩)
abbrev s_law_random : Stmt := top 30
abbrev s_law_below : Stmt := top 31
abbrev s_law_pick : Stmt := top 32
abbrev s_law_drawn : Stmt := top 34
abbrev s_is_between : Stmt := top 13
abbrev s_is_verse : Stmt := top 14
abbrev s_Rhymeu_initu : Stmt := inClass (top 15) 0
abbrev s_law_made : Stmt := top 35
abbrev s_law_number : Stmt := top 36
abbrev s_law_great : Stmt := top 37
abbrev s_need_number : Stmt := top 16
abbrev s_row_ahead : Stmt := top 25
abbrev s_sums_of : Stmt := top 19
abbrev s_times_above : Stmt := top 20
abbrev s_least_of : Stmt := top 21
abbrev s_climbs : Stmt := top 22
abbrev s_does_stay : Stmt := top 24
abbrev s_beside : Stmt := top 23
abbrev s_lifted : Stmt := top 26
abbrev s_run : Stmt := top 28
abbrev s_law_equal : Stmt := top 33
abbrev s_law_rises : Stmt := top 38
abbrev s_law_heir : Stmt := top 39
abbrev s_heir : Stmt := top 27
abbrev s_law_at : Stmt := top 40
abbrev s_law_goes : Stmt := top 41
abbrev s_law_spots : Stmt := top 42
abbrev s_law_refused : Stmt := top 43
abbrev s_law : Stmt := top 44
theorem sc_law_random : FnScope ["_law_script", "_law_salt", "_law_seed", "_law_cell"] ["_law_script", "_law_salt"] (defScope s_law_random) := ⟨rfl, rfl, rfl, by decide +kernel, rfl, by decide +kernel, by decide +kernel⟩
theorem sc_law_below : FnScope ["_law_d", "_law_size", "_law_result"] ["_law_d", "_law_size"] (defScope s_law_below) := ⟨rfl, rfl, rfl, by decide +kernel, rfl, by decide +kernel, by decide +kernel⟩
theorem sc_law_pick : FnScope ["_law_d", "_law_items"] ["_law_d", "_law_items"] (defScope s_law_pick) := ⟨rfl, rfl, rfl, by decide +kernel, rfl, by decide +kernel, by decide +kernel⟩
theorem sc_law_drawn : FnScope ["_law_d", "_law_verses", "_law_k"] ["_law_d"] (defScope s_law_drawn) := ⟨rfl, rfl, rfl, by decide +kernel, rfl, by decide +kernel, by decide +kernel⟩
theorem sc_is_between : FnScope ["value", "least", "most"] ["value", "least", "most"] (defScope s_is_between) := ⟨rfl, rfl, rfl, by decide +kernel, rfl, by decide +kernel, by decide +kernel⟩
theorem sc_is_verse : FnScope ["value"] ["value"] (defScope s_is_verse) := ⟨rfl, rfl, rfl, by decide +kernel, rfl, by decide +kernel, by decide +kernel⟩
theorem sc_Rhymeu_initu : FnScope ["self", "verses", "left", "index", "verse", "way", "count"] ["self", "verses", "left"] (defScope s_Rhymeu_initu) := ⟨rfl, rfl, rfl, by decide +kernel, rfl, by decide +kernel, by decide +kernel⟩
theorem sc_law_made : FnScope ["_law_t"] ["_law_t"] (defScope s_law_made) := ⟨rfl, rfl, rfl, by decide +kernel, rfl, by decide +kernel, by decide +kernel⟩
theorem sc_law_number : FnScope ["_law_d", "_law_t", "_law_most"] ["_law_d", "_law_t", "_law_most"] (defScope s_law_number) := ⟨rfl, rfl, rfl, by decide +kernel, rfl, by decide +kernel, by decide +kernel⟩
theorem sc_law_great : FnScope ["_law_d", "_law_power"] ["_law_d"] (defScope s_law_great) := ⟨rfl, rfl, rfl, by decide +kernel, rfl, by decide +kernel, by decide +kernel⟩
theorem sc_need_number : FnScope ["rhyme", "value", "most"] ["rhyme", "value", "most"] (defScope s_need_number) := ⟨rfl, rfl, rfl, by decide +kernel, rfl, by decide +kernel, by decide +kernel⟩
theorem sc_row_ahead : FnScope ["rhyme", "n", "size", "many", "at"] ["rhyme", "n", "size"] (defScope s_row_ahead) := ⟨rfl, rfl, rfl, by decide +kernel, rfl, by decide +kernel, by decide +kernel⟩
theorem sc_sums_of : FnScope ["row", "found", "total", "number"] ["row"] (defScope s_sums_of) := ⟨rfl, rfl, rfl, by decide +kernel, rfl, by decide +kernel, by decide +kernel⟩
theorem sc_times_above : FnScope ["room", "more"] ["room", "more"] (defScope s_times_above) := ⟨rfl, rfl, rfl, by decide +kernel, rfl, by decide +kernel, by decide +kernel⟩
theorem sc_least_of : FnScope ["some", "found", "number"] ["some"] (defScope s_least_of) := ⟨rfl, rfl, rfl, by decide +kernel, rfl, by decide +kernel, by decide +kernel⟩
theorem sc_climbs : FnScope ["place", "size", "sums", "many", "rise", "found", "at", "total"] ["place", "size", "sums"] (defScope s_climbs) := ⟨rfl, rfl, rfl, by decide +kernel, rfl, by decide +kernel, by decide +kernel⟩
theorem sc_does_stay : FnScope ["row", "here", "now", "rise"] ["row", "here"] (defScope s_does_stay) := ⟨rfl, rfl, rfl, by decide +kernel, rfl, by decide +kernel, by decide +kernel⟩
theorem sc_beside : FnScope ["place", "size"] ["place", "size"] (defScope s_beside) := ⟨rfl, rfl, rfl, by decide +kernel, rfl, by decide +kernel, by decide +kernel⟩
theorem sc_lifted : FnScope ["rhyme", "place", "size", "n", "many", "row", "sums", "most", "found", "leap"] ["rhyme", "place", "size", "n"] (defScope s_lifted) := ⟨rfl, rfl, rfl, by decide +kernel, rfl, by decide +kernel, by decide +kernel⟩
theorem sc_run : FnScope ["rhyme", "n", "many", "rise", "first", "size", "place", "row", "leap", "later"] ["rhyme", "n"] (defScope s_run) := ⟨rfl, rfl, rfl, by decide +kernel, rfl, by decide +kernel, by decide +kernel⟩
theorem sc_law_equal : FnScope ["_law_actual", "_law_expected", "_law_key", "_law_k"] ["_law_actual", "_law_expected"] (defScope s_law_equal) := ⟨rfl, rfl, rfl, by decide +kernel, rfl, by decide +kernel, by decide +kernel⟩
theorem sc_law_rises : FnScope ["_law_t", "_law_way", "_law_count"] ["_law_t"] (defScope s_law_rises) := ⟨rfl, rfl, rfl, by decide +kernel, rfl, by decide +kernel, by decide +kernel⟩
theorem sc_law_heir : FnScope ["_law_t", "_law_n", "_law_rises_here", "_law_place", "_law_size"] ["_law_t", "_law_n"] (defScope s_law_heir) := ⟨rfl, rfl, rfl, by decide +kernel, rfl, by decide +kernel, by decide +kernel⟩
theorem sc_heir : FnScope ["rhyme", "n"] ["rhyme", "n"] (defScope s_heir) := ⟨rfl, rfl, rfl, by decide +kernel, rfl, by decide +kernel, by decide +kernel⟩
theorem sc_law_at : FnScope ["_law_t", "_law_rhyme", "_law_n"] ["_law_t", "_law_rhyme", "_law_n"] (defScope s_law_at) := ⟨rfl, rfl, rfl, by decide +kernel, rfl, by decide +kernel, by decide +kernel⟩
theorem sc_law_goes : FnScope ["_law_t", "_law_rhyme", "_law_n", "_law_many"] ["_law_t", "_law_rhyme", "_law_n"] (defScope s_law_goes) := ⟨rfl, rfl, rfl, by decide +kernel, rfl, by decide +kernel, by decide +kernel⟩
theorem sc_law_spots : FnScope ["_law_d", "_law_first", "_law_last", "_law_many", "_law_steps", "_law_some", "_law_k", "_law_turn"] ["_law_d", "_law_first", "_law_last", "_law_many"] (defScope s_law_spots) := ⟨rfl, rfl, rfl, by decide +kernel, rfl, by decide +kernel, by decide +kernel⟩
theorem sc_law_refusedR : FnScope ["_law_rhyme", "_law_n", "_law_told"] ["_law_rhyme", "_law_n"] (defScope s_law_refused) := ⟨rfl, rfl, rfl, by decide +kernel, rfl, by decide +kernel, by decide +kernel⟩
theorem sc_law : FnScope ["_law_script", "_law_d", "_law_t", "_law_rhyme", "_law_many", "_law_n", "_law_told", "_law_first", "_law_last", "_law_spots_here", "_law_spot"] ["_law_script"] (defScope s_law) := ⟨rfl, rfl, rfl, by decide +kernel, rfl, by decide +kernel, by decide +kernel⟩
structure Tw (K : PySem.W.Frag) (mg : Str → Option Value) : Prop where
  k_BACK : ∃ u, mg "BACK" = some u ∧ RelV (.str "back") u
  k_FEW : ∃ u, mg "FEW" = some u ∧ RelV (.int 64) u
  k_MOST_COUNT : ∃ u, mg "MOST_COUNT" = some u ∧ RelV (.int 6) u
  k_MOST_LEFT : ∃ u, mg "MOST_LEFT" = some u ∧ RelV (.int 3) u
  k_MOST_VERSES : ∃ u, mg "MOST_VERSES" = some u ∧ RelV (.int 4) u
  k_ON : ∃ u, mg "ON" = some u ∧ RelV (.str "on") u
  x_BadNumber : XcK K mg "BadNumber"
  f_abs : mg "abs" = none
  f_all : mg "all" = none
  f_bool : mg "bool" = none
  f_dict : mg "dict" = none
  f_enumerate : mg "enumerate" = none
  f_int : mg "int" = none
  f_isinstance : mg "isinstance" = none
  f_len : mg "len" = none
  f_list : mg "list" = none
  f_max : mg "max" = none
  f_min : mg "min" = none
  f_range : mg "range" = none
  f_sorted : mg "sorted" = none
  f_str : mg "str" = none
  f_sum : mg "sum" = none
  f_tuple : mg "tuple" = none
  g_Rhyme : mg "Rhyme" = some (.ref (He.ga K "Rhyme"))
  d_law_random : mg "_law_random" = some (.ref (He.ga K "_law_random"))
  d_law_below : mg "_law_below" = some (.ref (He.ga K "_law_below"))
  d_law_pick : mg "_law_pick" = some (.ref (He.ga K "_law_pick"))
  d_law_drawn : mg "_law_drawn" = some (.ref (He.ga K "_law_drawn"))
  d_is_between : mg "is_between" = some (.ref (He.ga K "is_between"))
  d_is_verse : mg "is_verse" = some (.ref (He.ga K "is_verse"))
  d_law_made : mg "_law_made" = some (.ref (He.ga K "_law_made"))
  d_law_number : mg "_law_number" = some (.ref (He.ga K "_law_number"))
  d_law_great : mg "_law_great" = some (.ref (He.ga K "_law_great"))
  d_need_number : mg "need_number" = some (.ref (He.ga K "need_number"))
  d_row_ahead : mg "row_ahead" = some (.ref (He.ga K "row_ahead"))
  d_sums_of : mg "sums_of" = some (.ref (He.ga K "sums_of"))
  d_times_above : mg "times_above" = some (.ref (He.ga K "times_above"))
  d_least_of : mg "least_of" = some (.ref (He.ga K "least_of"))
  d_climbs : mg "climbs" = some (.ref (He.ga K "climbs"))
  d_does_stay : mg "does_stay" = some (.ref (He.ga K "does_stay"))
  d_beside : mg "beside" = some (.ref (He.ga K "beside"))
  d_lifted : mg "lifted" = some (.ref (He.ga K "lifted"))
  d_run : mg "run" = some (.ref (He.ga K "run"))
  d_law_equal : mg "_law_equal" = some (.ref (He.ga K "_law_equal"))
  d_law_rises : mg "_law_rises" = some (.ref (He.ga K "_law_rises"))
  d_law_heir : mg "_law_heir" = some (.ref (He.ga K "_law_heir"))
  d_heir : mg "heir" = some (.ref (He.ga K "heir"))
  d_law_at : mg "_law_at" = some (.ref (He.ga K "_law_at"))
  d_law_goes : mg "_law_goes" = some (.ref (He.ga K "_law_goes"))
  d_law_spots : mg "_law_spots" = some (.ref (He.ga K "_law_spots"))
  d_law_refusedR : mg "_law_refused" = some (.ref (He.ga K "_law_refused"))
  d_law : mg "law" = some (.ref (He.ga K "law"))
  rh : RhC K
  mk_Rhyme : (He.Fa.mkr "Rhyme").ok K = true
  e_bn : PySem.W.exmOne K (BN K "BadNumber") (BN K "BadNumber") = some true
section
variable {P : Program} {w : World} {K : PySem.W.Frag} {mg : Str → Option Value} {base : Heap}
theorem ok_law_random (T : Tw K mg)  (F : ∃ fd, FnT K "_law_random" "_law_random" s_law_random [] (He.ga K "_law_random") fd) : Cl P w K mg base 1 "_law_random" (sp_law_random K) [] := by
  refine cl_of F T.d_law_random sc_law_random (fun vs H Q E h => ?_) (fun _ _ _ _ _ _ us hl => match us, hl with | [_, _], _ => rfl) (fun cdv A outer s H vs Q E hr h => ?_)
  · unfold sp_law_random at h
    repeat (first | (obtain ⟨rfl, _⟩ := h; rfl) | (obtain ⟨_, h⟩ := h))
  · have nd := sc_law_random.nd
    exact ⟨_, (pss_cons (ps_set (i := 2) nd rfl (Or.inl rfl) (pv 1))
      (pss_cons (ps_for ownsE rfl (pi_list (pv 0)) (pg_name (i := 3) nd rfl (Or.inl rfl))
      (pss_one (ps_set (i := 2) nd rfl (Or.inl rfl) (pe_op op_mod (pe_callTy call_int1 rfl T.f_int (by decide +kernel) (pa_cons (pe_op op_add (pe_op op_mul (pv 2) pe_int) (pe_callB call_abs rfl T.f_abs (by decide +kernel) (pa_cons (pv 3) pa_nil))) pa_nil)) pe_int))))
      (pss_one (ps_ret (pe_op op_cat (pe_lst (pa_cons (pv 2) (pa_cons pe_int pa_nil))) (pe_lc (own := [("_law_cell", 3)]) (g := (gName 3)) (tt := (tTest (tOp oGe (tVar 3) (tOp oPow (tC (.int 10)) (tC (.int 18)))))) (te := (tVar 3)) rfl nd (pi_list (pv 0)) (blkOk_by (N := ["_law_script", "_law_salt", "_law_seed", "_law_cell"]) (sc := defScope s_law_random) (by decide +kernel)) (fun _ _ _ _ _ => (pg_name (i := 3) nd rfl (Or.inl rfl))) (fun _ _ _ _ _ => (pts_one (pt_cmpR op_ge (pv 3) (pe_op op_pow pe_int pe_int) (nomark _)))) (fun _ _ _ _ _ => (pv 3)))))))), by with_unfolding_all exact pure_law_random  vs H Q E h⟩
theorem ok_law_below (T : Tw K mg)  (F : ∃ fd, FnT K "_law_below" "_law_below" s_law_below [] (He.ga K "_law_below") fd) : Cl P w K mg base 1 "_law_below" (sp_law_below K) [] := by
  refine cl_of F T.d_law_below sc_law_below (fun vs H Q E h => ?_) (fun _ _ _ _ _ _ us hl => match us, hl with | [_, _], _ => rfl) (fun cdv A outer s H vs Q E hr h => ?_)
  · unfold sp_law_below at h
    repeat (first | (obtain ⟨rfl, _⟩ := h; rfl) | (obtain ⟨_, h⟩ := h))
  · have nd := sc_law_below.nd
    exact ⟨_, (pss_cons (ps_if (PW.pt (pw_and (pt_cmpR op_eq (pe_ix ix_list (pv 0) pe_int (fun _ _ => rfl)) pe_int (nomark _)) (pw_and1 (pt_cmpR op_gt (pe_callB call_len_seq rfl T.f_len (by decide +kernel) (pa_cons (pv 0) pa_nil)) pe_int (nomark _))))) (pss_one (ps_asg (pe_bm PySem.F.plainAttrs_list PySem.F.slot_list_pop PySem.F.type_list_pop mt_popAt (pv 0) (pa_cons pe_int pa_nil)) (pg_sub (pv 0) pe_int set_list))) pss_nil)
      (pss_cons (ps_if (pt_cmpR op_gt (pe_ix ix_list (pv 0) pe_int (fun _ _ => rfl)) pe_int (nomark _)) (pss_cons (ps_set (i := 2) nd rfl (Or.inl rfl) (pe_op op_mod (pe_callTy call_int1 rfl T.f_int (by decide +kernel) (pa_cons (pe_ix ix_list (pv 0) pe_int (fun _ _ => rfl)) pa_nil)) (pv 1)))
      (pss_cons (ps_asg (pe_op op_fdivW (pe_ix ix_list (pv 0) pe_int (fun _ _ => rfl)) (pv 1)) (pg_sub (pv 0) pe_int set_list))
      (pss_one (ps_ret (pv 2))))) pss_nil)
      (pss_cons (ps_asg (pe_op op_mod (pe_callTy call_int1 rfl T.f_int (by decide +kernel) (pa_cons (pe_op op_add (pe_op op_mul (pe_ix ix_list (pv 0) pe_int (fun _ _ => rfl)) pe_int) pe_int) pa_nil)) pe_int) (pg_sub (pv 0) pe_int set_list))
      (pss_one (ps_ret (pe_op op_mod (pe_callTy call_int1 rfl T.f_int (by decide +kernel) (pa_cons (pe_op op_fdiv (pe_ix ix_list (pv 0) pe_int (fun _ _ => rfl)) pe_int) pa_nil)) (pv 1))))))), by with_unfolding_all exact pure_law_below  vs H Q E h⟩
theorem ok_law_pick (T : Tw K mg) (c_law_below : Cl P w K mg base 1 "_law_below" (sp_law_below K) []) (F : ∃ fd, FnT K "_law_pick" "_law_pick" s_law_pick [] (He.ga K "_law_pick") fd) : Cl P w K mg base 2 "_law_pick" (sp_law_pick K) [] := by
  refine cl_of F T.d_law_pick sc_law_pick (fun vs H Q E h => ?_) (fun _ _ _ _ _ _ us hl => match us, hl with | [_, _], _ => rfl) (fun cdv A outer s H vs Q E hr h => ?_)
  · unfold sp_law_pick at h
    repeat (first | (obtain ⟨rfl, _⟩ := h; rfl) | (obtain ⟨_, h⟩ := h))
  · have nd := sc_law_pick.nd
    exact ⟨_, (pss_one (ps_ret (pe_ix ix_list (pv 1) (pe_cl c_law_below hr (by omega) rfl passL (pa_cons (pv 0) (pa_cons (pe_callB call_len_seq rfl T.f_len (by decide +kernel) (pa_cons (pv 1) pa_nil)) pa_nil))) (fun _ _ => rfl)))), by with_unfolding_all exact pure_law_pick  vs H Q E h⟩
theorem ok_law_drawn (T : Tw K mg) (c_law_below : Cl P w K mg base 1 "_law_below" (sp_law_below K) []) (c_law_pick : Cl P w K mg base 2 "_law_pick" (sp_law_pick K) []) (F : ∃ fd, FnT K "_law_drawn" "_law_drawn" s_law_drawn [] (He.ga K "_law_drawn") fd) : Cl P w K mg base 3 "_law_drawn" (sp_law_drawn K) [] := by
  refine cl_of F T.d_law_drawn sc_law_drawn (fun vs H Q E h => ?_) (fun _ _ _ _ _ _ us hl => match us, hl with | [_], _ => rfl) (fun cdv A outer s H vs Q E hr h => ?_)
  · unfold sp_law_drawn at h
    repeat (first | (obtain ⟨rfl, _⟩ := h; rfl) | (obtain ⟨_, h⟩ := h))
  · have nd := sc_law_drawn.nd
    exact ⟨_, (pss_cons (ps_set (i := 1) nd rfl (Or.inl rfl) (pe_lst pa_nil))
      (pss_cons (ps_for ownsE rfl (pi_range1 rfl T.f_range (pa_cons (pe_op op_add pe_int (pe_cl c_law_below hr (by omega) rfl passL (pa_cons (pv 0) (pa_cons pe_int pa_nil)))) pa_nil)) (pg_name (i := 2) nd rfl (Or.inl rfl))
      (pss_one (ps_expr (pe_bm PySem.F.plainAttrs_list PySem.F.slot_list_append PySem.F.type_list_append mt_append (pv 1) (pa_cons (pe_tup (pa_cons (pe_cl c_law_pick hr (by omega) rfl passL (pa_cons (pv 0) (pa_cons (pe_lst (pa_cons pe_str (pa_cons pe_str (pa_cons pe_str pa_nil)))) pa_nil))) (pa_cons (pe_op op_add pe_int (pe_cl c_law_below hr (by omega) rfl passL (pa_cons (pv 0) (pa_cons pe_int pa_nil)))) pa_nil))) pa_nil)))))
      (pss_one (ps_ret (pe_tup (pa_cons (pe_callTy call_tuple_of rfl T.f_tuple (by decide +kernel) (pa_cons (pv 1) pa_nil)) (pa_cons (pe_op op_add pe_int (pe_cl c_law_below hr (by omega) rfl passL (pa_cons (pv 0) (pa_cons pe_int pa_nil)))) pa_nil))))))), by with_unfolding_all exact pure_law_drawn  vs H Q E h⟩
theorem ok_is_between (T : Tw K mg)  (F : ∃ fd, FnT K "is_between" "is_between" s_is_between [] (He.ga K "is_between") fd) : Cl P w K mg base 1 "is_between" (sp_is_between K) [] := by
  refine cl_of F T.d_is_between sc_is_between (fun vs H Q E h => ?_) (fun _ _ _ _ _ _ us hl => match us, hl with | [_, _, _], _ => rfl) (fun cdv A outer s H vs Q E hr h => ?_)
  · unfold sp_is_between at h
    repeat (first | (obtain ⟨rfl, _⟩ := h; rfl) | (obtain ⟨_, h⟩ := h))
  · have nd := sc_is_between.nd
    exact ⟨_, (pss_one (ps_ret (pe_and (pe_callB call_isi rfl T.f_isinstance (by decide +kernel) (pa_cons (pv 0) (pa_cons (pe_bltn (v := .ty "int") (u := .type "int") rfl T.f_int (by decide +kernel) rfl) pa_nil))) (pe_and (pe_not (pe_callB call_isi rfl T.f_isinstance (by decide +kernel) (pa_cons (pv 0) (pa_cons (pe_bltn (v := .ty "bool") (u := .type "bool") rfl T.f_bool (by decide +kernel) rfl) pa_nil)))) (pe_one (pe_chain op_le op_le (pv 1) (pv 0) (pv 2))))))), by with_unfolding_all exact pure_is_between  vs H Q E h⟩
theorem ok_is_verse (T : Tw K mg) (c_is_between : Cl P w K mg base 1 "is_between" (sp_is_between K) []) (F : ∃ fd, FnT K "is_verse" "is_verse" s_is_verse [] (He.ga K "is_verse") fd) : Cl P w K mg base 2 "is_verse" (sp_is_verse K) [] := by
  refine cl_of F T.d_is_verse sc_is_verse (fun vs H Q E h => ?_) (fun _ _ _ _ _ _ us hl => match us, hl with | [_], _ => rfl) (fun cdv A outer s H vs Q E hr h => ?_)
  · unfold sp_is_verse at h
    repeat (first | (obtain ⟨rfl, _⟩ := h; rfl) | (obtain ⟨_, h⟩ := h))
  · have nd := sc_is_verse.nd
    exact ⟨_, (pss_cons (ps_if (PW.pt (pw_or (pt_not (pt_val (pe_callB call_isi rfl T.f_isinstance (by decide +kernel) (pa_cons (pv 0) (pa_cons (pe_bltn (v := .ty "tuple") (u := .type "tuple") rfl T.f_tuple (by decide +kernel) rfl) pa_nil))))) (pw_or (pt_cmpR op_ne (pe_callB call_len_seq rfl T.f_len (by decide +kernel) (pa_cons (pv 0) pa_nil)) pe_int (nomark _)) (pw_or1 (pt_not (pt_val (pe_callB call_isi rfl T.f_isinstance (by decide +kernel) (pa_cons (pe_ix ix_tup (pv 0) pe_int (fun _ _ => rfl)) (pa_cons (pe_bltn (v := .ty "str") (u := .type "str") rfl T.f_str (by decide +kernel) rfl) pa_nil))))))))) (pss_one (ps_ret pe_bl)) pss_nil)
      (pss_one (ps_ret (pe_and (pe_cmpR op_in_seq (pe_ix ix_tup (pv 0) pe_int (fun _ _ => rfl)) (pe_tup (pa_cons (C8.pe_gc rfl T.k_ON) (pa_cons (C8.pe_gc rfl T.k_BACK) pa_nil))) (by rfl)) (pe_one (pe_cl c_is_between hr (by omega) rfl passL (pa_cons (pe_ix ix_tup (pv 0) pe_int (fun _ _ => rfl)) (pa_cons pe_int (pa_cons (C8.pe_gc rfl T.k_MOST_COUNT) pa_nil))))))))), by with_unfolding_all exact pure_is_verse  vs H Q E h⟩
theorem ok_Rhymeu_initu (T : Tw K mg) (c_is_verse : Cl P w K mg base 2 "is_verse" (sp_is_verse K) []) (c_is_between : Cl P w K mg base 1 "is_between" (sp_is_between K) []) (F : ∃ fd, FnT K "__init__" "Rhyme.__init__" s_Rhymeu_initu [] (He.ma K (He.ga K "Rhyme") "__init__") fd) : Ck P w K mg base 3 "Rhyme" (He.ga K "Rhyme") (sp_Rhymeu_initu K) := by
  refine ck_of (He.mkr_ok T.mk_Rhyme) F T.g_Rhyme sc_Rhymeu_initu (fun vs H Q E h => ?_) (fun _ _ _ _ _ _ us hl => match us, hl with | [_, _, _], _ => rfl) (fun cdv A outer s H vs Q E hr h => ?_)
  · unfold sp_Rhymeu_initu at h
    repeat (first | (obtain ⟨rfl, _⟩ := h; rfl) | (obtain ⟨_, h⟩ := h))
  · have nd := sc_Rhymeu_initu.nd
    exact ⟨_, (pss_cons (ps_if (PW.pt (pw_or (pt_not (pt_val (pe_callB call_isi rfl T.f_isinstance (by decide +kernel) (pa_cons (pv 1) (pa_cons (pe_bltn (v := .ty "tuple") (u := .type "tuple") rfl T.f_tuple (by decide +kernel) rfl) pa_nil))))) (pw_or1 (pt_not (pt_chain op_le op_le pe_int (pe_callB call_len_seq rfl T.f_len (by decide +kernel) (pa_cons (pv 1) pa_nil)) (C8.pe_gc rfl T.k_MOST_VERSES)))))) (pss_one ps_never) pss_nil)
      (pss_cons (ps_for ownsE rfl (pi_enumT rfl T.f_enumerate (pa_cons (pv 1) pa_nil)) (pg_tup rfl (pgs_cons (pg_name (i := 3) nd rfl (Or.inl rfl)) (pgs_cons (pg_name (i := 4) nd rfl (Or.inl rfl)) pgs_nil)))
      (pss_one (ps_if (pt_not (pt_val (pe_cl c_is_verse hr (by omega) rfl passL (pa_cons (pv 4) pa_nil)))) (pss_one ps_never) pss_nil)))
      (pss_cons (ps_if (pt_not (pt_val (pe_cl c_is_between hr (by omega) rfl passL (pa_cons (pv 2) (pa_cons pe_int (pa_cons (C8.pe_gc rfl T.k_MOST_LEFT) pa_nil)))))) (pss_one ps_never) pss_nil)
      (pss_cons (ps_fld (pv 0) (pv 1) rfl)
      (pss_cons (ps_fld (pv 0) (pv 2) rfl)
      (pss_one (ps_fld (pv 0) (pe_callTy call_tuple_of rfl T.f_tuple (by decide +kernel) (pa_cons (pe_lc (own := [("way", 5), ("count", 6)]) (g := (gTup K 2 (gCons (gName 5) (gCons (gName 6) gNil)))) (tt := tYes) (te := (tIf (tTest (tOp rEq (tVar 5) (tC (.str "on")))) (tVar 6) (tOp oSub (tC (.int 1)) (tVar 6)))) rfl nd (pi_tup (pv 1)) (blkOk_by (N := ["self", "verses", "left", "index", "verse", "way", "count"]) (sc := defScope s_Rhymeu_initu) (by decide +kernel)) (fun _ _ _ _ _ => (pg_tup rfl (pgs_cons (pg_name (i := 5) nd rfl (Or.inl rfl)) (pgs_cons (pg_name (i := 6) nd rfl (Or.inl rfl)) pgs_nil)))) (fun _ _ _ _ _ => pts_nil) (fun _ _ _ _ _ => (pe_ifExp (pt_cmpR op_eq (pv 5) (C8.pe_gc rfl T.k_ON) (nomark _)) (pv 6) (pe_op op_sub pe_int (pv 6))))) pa_nil)) rfl))))))), by with_unfolding_all exact pure_Rhymeu_initu T.rh vs H Q E h⟩
theorem ok_law_made (T : Tw K mg) (c_Rhymeu_initu : Ck P w K mg base 3 "Rhyme" (He.ga K "Rhyme") (sp_Rhymeu_initu K)) (F : ∃ fd, FnT K "_law_made" "_law_made" s_law_made [] (He.ga K "_law_made") fd) : Cl P w K mg base 5 "_law_made" (sp_law_made K) [] := by
  refine cl_of F T.d_law_made sc_law_made (fun vs H Q E h => ?_) (fun _ _ _ _ _ _ us hl => match us, hl with | [_], _ => rfl) (fun cdv A outer s H vs Q E hr h => ?_)
  · unfold sp_law_made at h
    repeat (first | (obtain ⟨rfl, _⟩ := h; rfl) | (obtain ⟨_, h⟩ := h))
  · have nd := sc_law_made.nd
    exact ⟨_, (pss_one (ps_ret (pe_mkc c_Rhymeu_initu hr (by omega) rfl passL (pa_cons (pe_ix ix_tup (pv 0) pe_int (fun _ _ => rfl)) (pa_cons (pe_ix ix_tup (pv 0) pe_int (fun _ _ => rfl)) pa_nil))))), by with_unfolding_all exact pure_law_made  vs H Q E h⟩
theorem ok_law_number (T : Tw K mg) (c_law_below : Cl P w K mg base 1 "_law_below" (sp_law_below K) []) (F : ∃ fd, FnT K "_law_number" "_law_number" s_law_number [] (He.ga K "_law_number") fd) : Cl P w K mg base 2 "_law_number" (sp_law_number K) [] := by
  refine cl_of F T.d_law_number sc_law_number (fun vs H Q E h => ?_) (fun _ _ _ _ _ _ us hl => match us, hl with | [_, _, _], _ => rfl) (fun cdv A outer s H vs Q E hr h => ?_)
  · unfold sp_law_number at h
    repeat (first | (obtain ⟨rfl, _⟩ := h; rfl) | (obtain ⟨_, h⟩ := h))
  · have nd := sc_law_number.nd
    exact ⟨_, (pss_one (ps_ret (pe_op op_add (pe_ix ix_tup (pv 1) pe_int (fun _ _ => rfl)) (pe_cl c_law_below hr (by omega) rfl passL (pa_cons (pv 0) (pa_cons (pe_op op_add (pe_op op_sub (pv 2) (pe_ix ix_tup (pv 1) pe_int (fun _ _ => rfl))) pe_int) pa_nil)))))), by with_unfolding_all exact pure_law_number  vs H Q E h⟩
theorem ok_law_great (T : Tw K mg) (c_law_pick : Cl P w K mg base 2 "_law_pick" (sp_law_pick K) []) (c_law_below : Cl P w K mg base 1 "_law_below" (sp_law_below K) []) (F : ∃ fd, FnT K "_law_great" "_law_great" s_law_great [] (He.ga K "_law_great") fd) : Cl P w K mg base 3 "_law_great" (sp_law_great K) [] := by
  refine cl_of F T.d_law_great sc_law_great (fun vs H Q E h => ?_) (fun _ _ _ _ _ _ us hl => match us, hl with | [_], _ => rfl) (fun cdv A outer s H vs Q E hr h => ?_)
  · unfold sp_law_great at h
    repeat (first | (obtain ⟨rfl, _⟩ := h; rfl) | (obtain ⟨_, h⟩ := h))
  · have nd := sc_law_great.nd
    exact ⟨_, (pss_cons (ps_set (i := 1) nd rfl (Or.inl rfl) (pe_cl c_law_pick hr (by omega) rfl passL (pa_cons (pv 0) (pa_cons (pe_lst (pa_cons (pe_op op_pow pe_int pe_int) (pa_cons (pe_op op_pow pe_int pe_int) (pa_cons (pe_op op_pow pe_int pe_int) (pa_cons (pe_op op_pow pe_int pe_int) (pa_cons (pe_op op_sub (pe_op op_pow pe_int pe_int) pe_int) pa_nil)))))) pa_nil))))
      (pss_one (ps_ret (pe_op op_add (pv 1) (pe_cl c_law_below hr (by omega) rfl passL (pa_cons (pv 0) (pa_cons pe_int pa_nil))))))), by with_unfolding_all exact pure_law_great  vs H Q E h⟩
theorem ok_need_number (T : Tw K mg) (c_is_between : Cl P w K mg base 1 "is_between" (sp_is_between K) []) (F : ∃ fd, FnT K "need_number" "need_number" s_need_number [(.int 1000000000000000000000000000000)] (He.ga K "need_number") fd) : Cl P w K mg base 2 "need_number" (sp_need_number K) [(.int 1000000000000000000000000000000)] := by
  refine cld_of 2 0 F T.d_need_number sc_need_number (fun vs H Q E h => ?_) (by simp) rfl (fun _ _ _ _ _ _ _ us its hl hi => match us, hl, its, hi with | [_, _], _, [_], _ => ⟨_, rfl, rfl⟩) (fun cdv A outer s H vs Q E hr h => ?_)
  · unfold sp_need_number at h
    repeat (first | (obtain ⟨rfl, _⟩ := h; rfl) | (obtain ⟨_, h⟩ := h))
  · have nd := sc_need_number.nd
    exact ⟨_, (pss_one (ps_if (pt_not (pt_val (pe_cl c_is_between hr (by omega) rfl passE (pa_cons (pv 1) (pa_cons (pe_fld (pv 0) rfl) (pa_cons (pv 2) pa_nil)))))) (pss_one (ps_raise rfl takesE (pmk_own0 T.x_BadNumber rfl))) pss_nil)), by with_unfolding_all exact pure_need_number T.rh vs H Q E h⟩
theorem ok_need_numberF (T : Tw K mg) (c_is_between : Cl P w K mg base 1 "is_between" (sp_is_between K) []) (F : ∃ fd, FnT K "need_number" "need_number" s_need_number [(.int 1000000000000000000000000000000)] (He.ga K "need_number") fd) : Cl P w K mg base 2 "need_number" (sp_need_number K) [] := by
  refine cld_of 3 1 F T.d_need_number sc_need_number (fun vs H Q E h => ?_) (by simp) rfl (fun _ _ _ _ _ _ _ us its hl hi => match us, hl, its, hi with | [_, _, _], _, [_], _ => ⟨_, rfl, rfl⟩) (fun cdv A outer s H vs Q E hr h => ?_)
  · unfold sp_need_number at h
    repeat (first | (obtain ⟨rfl, _⟩ := h; rfl) | (obtain ⟨_, h⟩ := h))
  · have nd := sc_need_number.nd
    exact ⟨_, (pss_one (ps_if (pt_not (pt_val (pe_cl c_is_between hr (by omega) rfl passE (pa_cons (pv 1) (pa_cons (pe_fld (pv 0) rfl) (pa_cons (pv 2) pa_nil)))))) (pss_one (ps_raise rfl takesE (pmk_own0 T.x_BadNumber rfl))) pss_nil)), by with_unfolding_all exact pure_need_number T.rh vs H Q E h⟩
theorem ok_row_ahead (T : Tw K mg)  (F : ∃ fd, FnT K "row_ahead" "row_ahead" s_row_ahead [] (He.ga K "row_ahead") fd) : Cl P w K mg base 1 "row_ahead" (sp_row_ahead K) [] := by
  refine cl_of F T.d_row_ahead sc_row_ahead (fun vs H Q E h => ?_) (fun _ _ _ _ _ _ us hl => match us, hl with | [_, _, _], _ => rfl) (fun cdv A outer s H vs Q E hr h => ?_)
  · unfold sp_row_ahead at h
    repeat (first | (obtain ⟨rfl, _⟩ := h; rfl) | (obtain ⟨_, h⟩ := h))
  · have nd := sc_row_ahead.nd
    exact ⟨_, (pss_cons (ps_set (i := 3) nd rfl (Or.inr rfl) (pe_callB call_len_seq rfl T.f_len (by decide +kernel) (pa_cons (pe_fld (pv 0) rfl) pa_nil)))
      (pss_one (ps_ret (pe_lc (own := [("at", 4)]) (g := (gName 4)) (tt := tYes) (te := (tOp (rIxT K) (tFld K (tVar 0) "rises") (tOp oMod (tOp oSub (tOp oSub (tOp oSub (tVar 1) (tVar 2)) (tC (.int 1))) (tVar 4)) (tVar 3)))) rfl nd (pi_range1 rfl T.f_range (pa_cons (pv 3) pa_nil)) (blkOk_by (N := ["rhyme", "n", "size", "many", "at"]) (sc := defScope s_row_ahead) (by decide +kernel)) (fun _ _ _ _ _ => (pg_name (i := 4) nd rfl (Or.inl rfl))) (fun _ _ _ _ _ => pts_nil) (fun _ _ _ _ _ => (pe_ix ix_tup (pe_fld (pv 0) rfl) (pe_op op_mod (pe_op op_sub (pe_op op_sub (pe_op op_sub (pv 1) (pv 2)) pe_int) (pv 4)) (pv 3)) (fun _ _ => rfl))))))), by with_unfolding_all exact pure_row_ahead T.rh vs H Q E h⟩
theorem ok_sums_of (T : Tw K mg)  (F : ∃ fd, FnT K "sums_of" "sums_of" s_sums_of [] (He.ga K "sums_of") fd) : Cl P w K mg base 1 "sums_of" (sp_sums_of K) [] := by
  refine cl_of F T.d_sums_of sc_sums_of (fun vs H Q E h => ?_) (fun _ _ _ _ _ _ us hl => match us, hl with | [_], _ => rfl) (fun cdv A outer s H vs Q E hr h => ?_)
  · unfold sp_sums_of at h
    repeat (first | (obtain ⟨rfl, _⟩ := h; rfl) | (obtain ⟨_, h⟩ := h))
  · have nd := sc_sums_of.nd
    exact ⟨_, (pss_cons (ps_set (i := 1) nd rfl (Or.inl rfl) (pe_lst pa_nil))
      (pss_cons (ps_set (i := 2) nd rfl (Or.inl rfl) pe_int)
      (pss_cons (ps_for ownsE rfl (pi_list (pv 0)) (pg_name (i := 3) nd rfl (Or.inl rfl))
      (pss_cons (ps_aug (i := 2) nd rfl (Or.inl rfl) (pv 3) ip_add)
      (pss_one (ps_expr (pe_bm PySem.F.plainAttrs_list PySem.F.slot_list_append PySem.F.type_list_append mt_append (pv 1) (pa_cons (pv 2) pa_nil))))))
      (pss_one (ps_ret (pv 1)))))), by with_unfolding_all exact pure_sums_of  vs H Q E h⟩
theorem ok_times_above (T : Tw K mg)  (F : ∃ fd, FnT K "times_above" "times_above" s_times_above [] (He.ga K "times_above") fd) : Cl P w K mg base 1 "times_above" (sp_times_above K) [] := by
  refine cl_of F T.d_times_above sc_times_above (fun vs H Q E h => ?_) (fun _ _ _ _ _ _ us hl => match us, hl with | [_, _], _ => rfl) (fun cdv A outer s H vs Q E hr h => ?_)
  · unfold sp_times_above at h
    repeat (first | (obtain ⟨rfl, _⟩ := h; rfl) | (obtain ⟨_, h⟩ := h))
  · have nd := sc_times_above.nd
    exact ⟨_, (pss_cons (ps_if (pt_cmpR op_lt (pv 0) pe_int (nomark _)) (pss_one (ps_ret pe_int)) pss_nil)
      (pss_one (ps_ret (pe_ifExp (pt_cmpR op_ge (pv 1) pe_int (nomark _)) pe_non (pe_op op_add (pe_op op_fdiv (pv 0) (pe_un un_neg (pv 1))) pe_int))))), by with_unfolding_all exact pure_times_above  vs H Q E h⟩
theorem ok_least_of (T : Tw K mg)  (F : ∃ fd, FnT K "least_of" "least_of" s_least_of [] (He.ga K "least_of") fd) : Cl P w K mg base 1 "least_of" (sp_least_of K) [] := by
  refine cl_of F T.d_least_of sc_least_of (fun vs H Q E h => ?_) (fun _ _ _ _ _ _ us hl => match us, hl with | [_], _ => rfl) (fun cdv A outer s H vs Q E hr h => ?_)
  · unfold sp_least_of at h
    repeat (first | (obtain ⟨rfl, _⟩ := h; rfl) | (obtain ⟨_, h⟩ := h))
  · have nd := sc_least_of.nd
    exact ⟨_, (pss_cons (ps_setLc (i := 1) (own := [("number", 2)]) (g := (gName 2)) (tt := (tTest (tOp oNotN (tVar 2) (tC .non)))) (te := (tVar 2)) rfl nd rfl rfl (sw_true rfl rfl rfl (by decide +kernel)) (pi_list (pv 0)) (blkOk_by (N := ["some", "found", "number"]) (sc := defScope s_least_of) (by decide +kernel)) (fun _ _ _ _ _ => (pg_name (i := 2) nd rfl (Or.inl rfl))) (fun _ _ _ _ _ => (pts_one (pt_cmpR op_notN (pv 2) pe_non (nomark _)))) (fun _ _ _ _ _ => (pv 2)))
      (pss_one (ps_ret (pe_ifExp (pt_cmpR (op_neD hr.units) (pv 1) (pe_lst pa_nil) (nomark _)) (pe_callB (cr_min rfl) rfl T.f_min (by decide +kernel) (pa_cons (pv 1) pa_nil)) pe_non)))), by with_unfolding_all exact pure_least_of  vs H Q E h⟩
theorem ok_climbs (T : Tw K mg) (c_times_above : Cl P w K mg base 1 "times_above" (sp_times_above K) []) (c_least_of : Cl P w K mg base 1 "least_of" (sp_least_of K) []) (F : ∃ fd, FnT K "climbs" "climbs" s_climbs [] (He.ga K "climbs") fd) : Cl P w K mg base 2 "climbs" (sp_climbs K) [] := by
  refine cl_of F T.d_climbs sc_climbs (fun vs H Q E h => ?_) (fun _ _ _ _ _ _ us hl => match us, hl with | [_, _, _], _ => rfl) (fun cdv A outer s H vs Q E hr h => ?_)
  · unfold sp_climbs at h
    repeat (first | (obtain ⟨rfl, _⟩ := h; rfl) | (obtain ⟨_, h⟩ := h))
  · have nd := sc_climbs.nd
    exact ⟨_, (pss_cons (ps_par (i := 3) (j := 4) rfl nd rfl rfl (by decide) rfl rfl (pa_cons (pe_callB call_len_seq rfl T.f_len (by decide +kernel) (pa_cons (pv 2) pa_nil)) (pa_cons (pe_ix ix_list (pv 2) (pe_un un_neg pe_int) (fun _ _ => rfl)) pa_nil)) (by rfl))
      (pss_cons (ps_set (i := 5) nd rfl (Or.inl rfl) (pe_lst pa_nil))
      (pss_cons (ps_for ownsE rfl (pi_enum rfl T.f_enumerate (pa_cons (pv 2) pa_nil)) (pg_tup rfl (pgs_cons (pg_name (i := 6) nd rfl (Or.inl rfl)) (pgs_cons (pg_name (i := 7) nd rfl (Or.inl rfl)) pgs_nil)))
      (pss_cons (ps_expr (pe_bm PySem.F.plainAttrs_list PySem.F.slot_list_append PySem.F.type_list_append mt_append (pv 5) (pa_cons (pe_cl c_times_above hr (by omega) rfl passL (pa_cons (pe_op op_add (pv 0) (pv 7)) (pa_cons (pv 4) pa_nil))) pa_nil)))
      (pss_one (ps_expr (pe_bm PySem.F.plainAttrs_list PySem.F.slot_list_append PySem.F.type_list_append mt_append (pv 5) (pa_cons (pe_cl c_times_above hr (by omega) rfl passL (pa_cons (pe_op op_sub (pe_op op_sub (pe_op op_add (pv 1) (pv 6)) (pv 0)) (pv 7)) (pa_cons (pe_op op_sub (pv 3) (pv 4)) pa_nil))) pa_nil))))))
      (pss_one (ps_ret (pe_cl c_least_of hr (by omega) rfl passL (pa_cons (pv 5) pa_nil))))))), by with_unfolding_all exact pure_climbs  vs H Q E h⟩
theorem ok_does_stay (T : Tw K mg)  (F : ∃ fd, FnT K "does_stay" "does_stay" s_does_stay [] (He.ga K "does_stay") fd) : Cl P w K mg base 1 "does_stay" (sp_does_stay K) [] := by
  refine cl_of F T.d_does_stay sc_does_stay (fun vs H Q E h => ?_) (fun _ _ _ _ _ _ us hl => match us, hl with | [_, _], _ => rfl) (fun cdv A outer s H vs Q E hr h => ?_)
  · unfold sp_does_stay at h
    repeat (first | (obtain ⟨rfl, _⟩ := h; rfl) | (obtain ⟨_, h⟩ := h))
  · have nd := sc_does_stay.nd
    exact ⟨_, (pss_cons (ps_set (i := 2) nd rfl (Or.inl rfl) (pv 1))
      (pss_cons (ps_for ownsE rfl (pi_list (pv 0)) (pg_name (i := 3) nd rfl (Or.inl rfl))
      (pss_one (ps_aug (i := 2) nd rfl (Or.inl rfl) (pe_op op_sub (pv 3) (pe_callTy call_int1 rfl T.f_int (by decide +kernel) (pa_cons (pe_cmpR op_lt (pv 2) pe_int (nomark _)) pa_nil))) ip_add)))
      (pss_one (ps_ret (pe_cmpR op_eq (pv 2) (pv 1) (nomark _)))))), by with_unfolding_all exact pure_does_stay  vs H Q E h⟩
theorem ok_beside (T : Tw K mg)  (F : ∃ fd, FnT K "beside" "beside" s_beside [] (He.ga K "beside") fd) : Cl P w K mg base 1 "beside" (sp_beside K) [] := by
  refine cl_of F T.d_beside sc_beside (fun vs H Q E h => ?_) (fun _ _ _ _ _ _ us hl => match us, hl with | [_, _], _ => rfl) (fun cdv A outer s H vs Q E hr h => ?_)
  · unfold sp_beside at h
    repeat (first | (obtain ⟨rfl, _⟩ := h; rfl) | (obtain ⟨_, h⟩ := h))
  · have nd := sc_beside.nd
    exact ⟨_, (pss_one (ps_ret (pe_ifExp (pt_cmpR op_lt (pv 0) (pe_op op_sub (pv 1) (pv 0)) (nomark _)) (pv 0) (pe_op op_sub (pv 0) (pv 1))))), by with_unfolding_all exact pure_beside  vs H Q E h⟩
theorem ok_lifted (T : Tw K mg) (c_row_ahead : Cl P w K mg base 1 "row_ahead" (sp_row_ahead K) []) (c_sums_of : Cl P w K mg base 1 "sums_of" (sp_sums_of K) []) (c_climbs : Cl P w K mg base 2 "climbs" (sp_climbs K) []) (c_does_stay : Cl P w K mg base 1 "does_stay" (sp_does_stay K) []) (c_beside : Cl P w K mg base 1 "beside" (sp_beside K) []) (F : ∃ fd, FnT K "lifted" "lifted" s_lifted [] (He.ga K "lifted") fd) : Cl P w K mg base 3 "lifted" (sp_lifted K) [] := by
  refine cl_of F T.d_lifted sc_lifted (fun vs H Q E h => ?_) (fun _ _ _ _ _ _ us hl => match us, hl with | [_, _, _, _], _ => rfl) (fun cdv A outer s H vs Q E hr h => ?_)
  · unfold sp_lifted at h
    repeat (first | (obtain ⟨rfl, _⟩ := h; rfl) | (obtain ⟨_, h⟩ := h))
  · have nd := sc_lifted.nd
    exact ⟨_, (pss_cons (ps_set (i := 4) nd rfl (Or.inl rfl) (pe_callB call_len_seq rfl T.f_len (by decide +kernel) (pa_cons (pe_fld (pv 0) rfl) pa_nil)))
      (pss_cons (ps_while ownsE (pt_cmpR op_lt (pv 2) (pv 3) (nomark _))
      (pss_cons (ps_set (i := 5) nd rfl (Or.inl rfl) (pe_cl c_row_ahead hr (by omega) rfl passL (pa_cons (pv 0) (pa_cons (pv 3) (pa_cons (pv 2) pa_nil)))))
      (pss_cons (ps_set (i := 6) nd rfl (Or.inl rfl) (pe_cl c_sums_of hr (by omega) rfl passL (pa_cons (pv 5) pa_nil)))
      (pss_cons (ps_set (i := 7) nd rfl (Or.inl rfl) (pe_op op_fdiv (pe_op op_sub (pv 3) (pv 2)) (pv 4)))
      (pss_cons (ps_set (i := 8) nd rfl (Or.inl rfl) (pe_cl c_climbs hr (by omega) rfl passL (pa_cons (pv 1) (pa_cons (pv 2) (pa_cons (pv 6) pa_nil)))))
      (pss_cons (ps_set (i := 9) nd rfl (Or.inl rfl) (pe_ifExp (pt_cmpR op_isN (pv 8) pe_non (nomark _)) (pv 7) (pe_callB (call_min2 rfl) rfl T.f_min (by decide +kernel) (pa_cons (pv 8) (pa_cons (pv 7) pa_nil)))))
      (pss_one (ps_if (pt_cmpR op_gt (pv 9) pe_int (nomark _)) (pss_cons (ps_aug (i := 1) nd rfl (Or.inl rfl) (pe_op op_mul (pv 9) (pe_ix ix_list (pv 6) (pe_un un_neg pe_int) (fun _ _ => rfl))) ip_add)
      (pss_one (ps_aug (i := 2) nd rfl (Or.inl rfl) (pe_op op_mul (pv 9) (pv 4)) ip_add))) (pss_one (ps_if (PW.pt (pw_and (pt_cmpR op_gt (pv 7) pe_int (nomark _)) (pw_and (pt_cmpR op_gt (pv 2) (C8.pe_gc rfl T.k_FEW) (nomark _)) (pw_and1 (pt_val (pe_cl c_does_stay hr (by omega) rfl passL (pa_cons (pv 5) (pa_cons (pe_cl c_beside hr (by omega) rfl passL (pa_cons (pv 1) (pa_cons (pv 2) pa_nil))) pa_nil)))))))) (pss_cons (ps_aug (i := 1) nd rfl (Or.inl rfl) (pe_op op_mul (pe_op op_mul (pv 7) (pv 4)) (pe_callTy call_int1 rfl T.f_int (by decide +kernel) (pa_cons (pe_cmpR op_lt (pe_cl c_beside hr (by omega) rfl passL (pa_cons (pv 1) (pa_cons (pv 2) pa_nil))) pe_int (nomark _)) pa_nil))) ip_add)
      (pss_one (ps_aug (i := 2) nd rfl (Or.inl rfl) (pe_op op_mul (pv 7) (pv 4)) ip_add))) (pss_cons (ps_aug (i := 2) nd rfl (Or.inl rfl) pe_int ip_add)
      (pss_one (ps_set (i := 1) nd rfl (Or.inl rfl) (pe_op op_mod (pe_op op_add (pv 1) (pe_ix ix_list (pv 5) pe_int (fun _ _ => rfl))) (pv 2)))))))))))))))
      (pss_one (ps_ret (pv 1))))), by with_unfolding_all exact pure_lifted T.rh vs H Q E h⟩
theorem ok_run (T : Tw K mg) (c_need_number : Cl P w K mg base 2 "need_number" (sp_need_number K) [(.int 1000000000000000000000000000000)]) (c_need_numberF : Cl P w K mg base 2 "need_number" (sp_need_number K) []) (c_lifted : Cl P w K mg base 3 "lifted" (sp_lifted K) []) (c_row_ahead : Cl P w K mg base 1 "row_ahead" (sp_row_ahead K) []) (c_climbs : Cl P w K mg base 2 "climbs" (sp_climbs K) []) (c_sums_of : Cl P w K mg base 1 "sums_of" (sp_sums_of K) []) (c_does_stay : Cl P w K mg base 1 "does_stay" (sp_does_stay K) []) (c_beside : Cl P w K mg base 1 "beside" (sp_beside K) []) (F : ∃ fd, FnT K "run" "run" s_run [] (He.ga K "run") fd) : Cl P w K mg base 4 "run" (sp_run K) [] := by
  refine cl_of F T.d_run sc_run (fun vs H Q E h => ?_) (fun _ _ _ _ _ _ us hl => match us, hl with | [_, _], _ => rfl) (fun cdv A outer s H vs Q E hr h => ?_)
  · unfold sp_run at h
    repeat (first | (obtain ⟨rfl, _⟩ := h; rfl) | (obtain ⟨_, h⟩ := h))
  · have nd := sc_run.nd
    exact ⟨_, (pss_cons (ps_expr (pe_cl c_need_number hr (by omega) rfl passE (pa_cons (pv 0) (pa_cons (pv 1) pa_nil))))
      (pss_cons (ps_par (i := 2) (j := 3) rfl nd rfl rfl (by decide) rfl rfl (pa_cons (pe_callB call_len_seq rfl T.f_len (by decide +kernel) (pa_cons (pe_fld (pv 0) rfl) pa_nil)) (pa_cons (pe_callB (cr_sumT rfl) rfl T.f_sum (by decide +kernel) (pa_cons (pe_fld (pv 0) rfl) pa_nil)) pa_nil)) (by rfl))
      (pss_cons (ps_set (i := 4) nd rfl (Or.inl rfl) (pe_op op_add (pe_fld (pv 0) rfl) (pe_op op_mod (pe_op op_sub (pv 1) (pe_fld (pv 0) rfl)) (pv 2))))
      (pss_cons (ps_par (i := 5) (j := 6) rfl nd rfl rfl (by decide) rfl rfl (pa_cons (pv 4) (pa_cons (pe_cl c_lifted hr (by omega) rfl passE (pa_cons (pv 0) (pa_cons pe_int (pa_cons (pe_fld (pv 0) rfl) (pa_cons (pv 4) pa_nil))))) pa_nil)) (by rfl))
      (pss_one (ps_while ownsE (pt_val pe_bl)
      (pss_cons (ps_set (i := 7) nd rfl (Or.inl rfl) (pe_cl c_row_ahead hr (by omega) rfl passE (pa_cons (pv 0) (pa_cons (pe_op op_add (pv 5) (pv 2)) (pa_cons (pv 5) pa_nil)))))
      (pss_cons (ps_set (i := 8) nd rfl (Or.inl rfl) (pe_cl c_climbs hr (by omega) rfl passE (pa_cons (pv 6) (pa_cons (pv 5) (pa_cons (pe_cl c_sums_of hr (by omega) rfl passE (pa_cons (pv 7) pa_nil)) pa_nil)))))
      (pss_cons (ps_if (pt_cmpR op_isN (pv 8) pe_non (nomark _)) (pss_one (ps_ret (pe_tup (pa_cons (pv 4) (pa_cons pe_non pa_nil))))) pss_nil)
      (pss_one (ps_if (pt_cmpR op_gt (pv 8) pe_int (nomark _)) (pss_cons (ps_aug (i := 6) nd rfl (Or.inl rfl) (pe_op op_mul (pv 8) (pv 3)) ip_add)
      (pss_one (ps_aug (i := 5) nd rfl (Or.inl rfl) (pe_op op_mul (pv 8) (pv 2)) ip_add))) (pss_one (ps_if (PW.pt (pw_and (pt_chain op_lt op_lt (C8.pe_gc rfl T.k_FEW) (pv 5) (pv 1)) (pw_and1 (pt_val (pe_cl c_does_stay hr (by omega) rfl passE (pa_cons (pv 7) (pa_cons (pe_cl c_beside hr (by omega) rfl passE (pa_cons (pv 6) (pa_cons (pv 5) pa_nil))) pa_nil))))))) (pss_cons (ps_aug (i := 6) nd rfl (Or.inl rfl) (pe_op op_mul (pe_op op_sub (pv 1) (pv 5)) (pe_callTy call_int1 rfl T.f_int (by decide +kernel) (pa_cons (pe_cmpR op_lt (pe_cl c_beside hr (by omega) rfl passE (pa_cons (pv 6) (pa_cons (pv 5) pa_nil))) pe_int (nomark _)) pa_nil))) ip_add)
      (pss_cons (ps_set (i := 4) nd rfl (Or.inl rfl) (pv 1))
      (pss_one (ps_set (i := 5) nd rfl (Or.inl rfl) (pv 1))))) (pss_cons (ps_set (i := 9) nd rfl (Or.inl rfl) (pe_cl c_lifted hr (by omega) rfl passE (pa_cons (pv 0) (pa_cons (pv 6) (pa_cons (pv 5) (pa_cons (pe_op op_add (pv 5) (pv 2)) pa_nil))))))
      (pss_cons (ps_if (pt_cmpR op_ne (pv 9) (pe_op op_add (pv 6) (pv 3)) (nomark _)) (pss_cons (ps_if (pt_cmpR op_le (pv 1) (pv 5) (nomark _)) (pss_one (ps_ret (pe_tup (pa_cons (pv 4) (pa_cons (pv 5) pa_nil))))) pss_nil)
      (pss_one (ps_set (i := 4) nd rfl (Or.inl rfl) (pe_op op_add (pv 5) (pv 2))))) pss_nil)
      (pss_one (ps_par (i := 6) (j := 5) rfl nd rfl rfl (by decide) rfl rfl (pa_cons (pv 9) (pa_cons (pe_op op_add (pv 5) (pv 2)) pa_nil)) (by rfl)))))))))))))))))), by with_unfolding_all exact pure_run T.rh vs H Q E h⟩
theorem ok_law_equal0 (T : Tw K mg) (F : ∃ fd, FnT K "_law_equal" "_law_equal" s_law_equal [] (He.ga K "_law_equal") fd) : ∀ n, Cl P w K mg base n "_law_equal" (sp_law_equal n K) []
  | 0 => cl_none (ps := ["_law_actual", "_law_expected"]) F T.d_law_equal (fun vs H Q E h => by
    unfold sp_law_equal at h
    exact h) (fun _ _ _ _ _ _ us hl => match us, hl with | [_, _], _ => rfl)
  | n + 1 => by
    have c_law_equal := ok_law_equal0 T F n
    refine cl_of F T.d_law_equal sc_law_equal (fun vs H Q E h => ?_) (fun _ _ _ _ _ _ us hl => match us, hl with | [_, _], _ => rfl) (fun cdv A outer s H vs Q E hr h => ?_)
    · unfold sp_law_equal at h
      obtain ⟨x, y, d, e, rfl, _⟩ := h
      rfl
    · have nd := sc_law_equal.nd
      exact ⟨_, (pss_cons (ps_if (pt_cmpR op_isN (pv 1) pe_non (nomark _)) (pss_one (ps_ret (pe_cmpR op_isN (pv 0) pe_non (nomark _)))) pss_nil)
      (pss_cons (ps_if (pt_val (pe_callB call_isi rfl T.f_isinstance (by decide +kernel) (pa_cons (pv 1) (pa_cons (pe_bltn (v := .ty "bool") (u := .type "bool") rfl T.f_bool (by decide +kernel) rfl) pa_nil)))) (pss_one (ps_ret (pe_and (pe_callB call_isi rfl T.f_isinstance (by decide +kernel) (pa_cons (pv 0) (pa_cons (pe_bltn (v := .ty "bool") (u := .type "bool") rfl T.f_bool (by decide +kernel) rfl) pa_nil))) (pe_one (pe_cmpR op_eq (pv 0) (pv 1) (nomark _)))))) pss_nil)
      (pss_cons (ps_if (pt_val (pe_callB call_isi rfl T.f_isinstance (by decide +kernel) (pa_cons (pv 1) (pa_cons (pe_bltn (v := .ty "int") (u := .type "int") rfl T.f_int (by decide +kernel) rfl) pa_nil)))) (pss_one (ps_ret (pe_and (pe_callB call_isi rfl T.f_isinstance (by decide +kernel) (pa_cons (pv 0) (pa_cons (pe_bltn (v := .ty "int") (u := .type "int") rfl T.f_int (by decide +kernel) rfl) pa_nil))) (pe_and (pe_not (pe_callB call_isi rfl T.f_isinstance (by decide +kernel) (pa_cons (pv 0) (pa_cons (pe_bltn (v := .ty "bool") (u := .type "bool") rfl T.f_bool (by decide +kernel) rfl) pa_nil)))) (pe_one (pe_cmpR op_eq (pv 0) (pv 1) (nomark _))))))) pss_nil)
      (pss_cons (ps_if (pt_val (pe_callB call_isi rfl T.f_isinstance (by decide +kernel) (pa_cons (pv 1) (pa_cons (pe_bltn (v := .ty "str") (u := .type "str") rfl T.f_str (by decide +kernel) rfl) pa_nil)))) (pss_one (ps_ret (pe_and (pe_callB call_isi rfl T.f_isinstance (by decide +kernel) (pa_cons (pv 0) (pa_cons (pe_bltn (v := .ty "str") (u := .type "str") rfl T.f_str (by decide +kernel) rfl) pa_nil))) (pe_one (pe_cmpR op_eq (pv 0) (pv 1) (nomark _)))))) pss_nil)
      (pss_cons (ps_if (pt_val (pe_callB call_isi rfl T.f_isinstance (by decide +kernel) (pa_cons (pv 1) (pa_cons (pe_bltn (v := .ty "dict") (u := .type "dict") rfl T.f_dict (by decide +kernel) rfl) pa_nil)))) (pss_cons (ps_if (PW.pt (pw_or (pt_not (pt_val (pe_callB call_isi rfl T.f_isinstance (by decide +kernel) (pa_cons (pv 0) (pa_cons (pe_bltn (v := .ty "dict") (u := .type "dict") rfl T.f_dict (by decide +kernel) rfl) pa_nil))))) (pw_or1 (pt_cmpR op_ne (pe_callTy call_list_of rfl T.f_list (by decide +kernel) (pa_cons (pv 0) pa_nil)) (pe_callB cr_sorted rfl T.f_sorted (by decide +kernel) (pa_cons (pe_callTy call_list_of rfl T.f_list (by decide +kernel) (pa_cons (pv 1) pa_nil)) pa_nil)) (nomark _))))) (pss_one (ps_ret pe_bl)) pss_nil)
      (pss_one (ps_ret (pe_callB (cr_all rfl) rfl T.f_all (by decide +kernel) (pa_cons (pe_lc (own := [("_law_key", 2)]) (g := (gName 2)) (tt := tYes) (te := (tCall (sp_law_equal n K) [] E0 (tCons (tOp (rIxL K) (tVar 0) (tVar 2)) (tCons (tOp (rIxL K) (tVar 1) (tVar 2)) tNil)))) rfl nd (pi_list (pe_callTy call_list_of rfl T.f_list (by decide +kernel) (pa_cons (pv 0) pa_nil))) (blkOk_by (N := ["_law_actual", "_law_expected", "_law_key", "_law_k"]) (sc := defScope s_law_equal) (by decide +kernel)) (fun _ _ _ _ _ => (pg_name (i := 2) nd rfl (Or.inl rfl))) (fun _ _ _ _ _ => pts_nil) (fun _ _ _ _ _ => (pe_cl c_law_equal hr (by omega) rfl passL (pa_cons (pe_ix ix_list (pv 0) (pv 2) (fun _ _ => rfl)) (pa_cons (pe_ix ix_list (pv 1) (pv 2) (fun _ _ => rfl)) pa_nil))))) pa_nil))))) pss_nil)
      (pss_cons (ps_if (pt_cmpR op_ne (pe_callB call_isi rfl T.f_isinstance (by decide +kernel) (pa_cons (pv 1) (pa_cons (pe_bltn (v := .ty "tuple") (u := .type "tuple") rfl T.f_tuple (by decide +kernel) rfl) pa_nil))) (pe_callB call_isi rfl T.f_isinstance (by decide +kernel) (pa_cons (pv 0) (pa_cons (pe_bltn (v := .ty "tuple") (u := .type "tuple") rfl T.f_tuple (by decide +kernel) rfl) pa_nil))) (nomark _)) (pss_one (ps_ret pe_bl)) pss_nil)
      (pss_cons (ps_if (pt_cmpR op_ne (pe_callB call_isi rfl T.f_isinstance (by decide +kernel) (pa_cons (pv 1) (pa_cons (pe_bltn (v := .ty "list") (u := .type "list") rfl T.f_list (by decide +kernel) rfl) pa_nil))) (pe_callB call_isi rfl T.f_isinstance (by decide +kernel) (pa_cons (pv 0) (pa_cons (pe_bltn (v := .ty "list") (u := .type "list") rfl T.f_list (by decide +kernel) rfl) pa_nil))) (nomark _)) (pss_one (ps_ret pe_bl)) pss_nil)
      (pss_cons (ps_if (pt_cmpR op_ne (pe_callB call_len_seq rfl T.f_len (by decide +kernel) (pa_cons (pv 0) pa_nil)) (pe_callB call_len_seq rfl T.f_len (by decide +kernel) (pa_cons (pv 1) pa_nil)) (nomark _)) (pss_one (ps_ret pe_bl)) pss_nil)
      (pss_one (ps_ret (pe_callB (cr_all rfl) rfl T.f_all (by decide +kernel) (pa_cons (pe_lc (own := [("_law_k", 3)]) (g := (gName 3)) (tt := tYes) (te := (tCall (sp_law_equal n K) [] E0 (tCons (tOp (rIxA K) (tVar 0) (tVar 3)) (tCons (tOp (rIxA K) (tVar 1) (tVar 3)) tNil)))) rfl nd (pi_range1 rfl T.f_range (pa_cons (pe_callB call_len_seq rfl T.f_len (by decide +kernel) (pa_cons (pv 1) pa_nil)) pa_nil)) (blkOk_by (N := ["_law_actual", "_law_expected", "_law_key", "_law_k"]) (sc := defScope s_law_equal) (by decide +kernel)) (fun _ _ _ _ _ => (pg_name (i := 3) nd rfl (Or.inl rfl))) (fun _ _ _ _ _ => pts_nil) (fun _ _ _ _ _ => (pe_cl c_law_equal hr (by omega) rfl passL (pa_cons (pe_ix ix_any (pv 0) (pv 3) (fun _ _ => rfl)) (pa_cons (pe_ix ix_any (pv 1) (pv 3) (fun _ _ => rfl)) pa_nil))))) pa_nil)))))))))))), by with_unfolding_all exact pure_law_equal vs h⟩
theorem ok_law_equal (T : Tw K mg) (F : ∃ fd, FnT K "_law_equal" "_law_equal" s_law_equal [] (He.ga K "_law_equal") fd) : Cl P w K mg base 4 "_law_equal" (sp_law_equal 4 K) [] := ok_law_equal0 T F 4
theorem ok_law_rises (T : Tw K mg)  (F : ∃ fd, FnT K "_law_rises" "_law_rises" s_law_rises [] (He.ga K "_law_rises") fd) : Cl P w K mg base 1 "_law_rises" (sp_law_rises K) [] := by
  refine cl_of F T.d_law_rises sc_law_rises (fun vs H Q E h => ?_) (fun _ _ _ _ _ _ us hl => match us, hl with | [_], _ => rfl) (fun cdv A outer s H vs Q E hr h => ?_)
  · unfold sp_law_rises at h
    repeat (first | (obtain ⟨rfl, _⟩ := h; rfl) | (obtain ⟨_, h⟩ := h))
  · have nd := sc_law_rises.nd
    exact ⟨_, (pss_one (ps_ret (pe_lc (own := [("_law_way", 1), ("_law_count", 2)]) (g := (gTup K 2 (gCons (gName 1) (gCons (gName 2) gNil)))) (tt := tYes) (te := (tIf (tTest (tOp rEq (tVar 1) (tC (.str "on")))) (tVar 2) (tOp oSub (tC (.int 1)) (tVar 2)))) rfl nd (pi_tup (pe_ix ix_tup (pv 0) pe_int (fun _ _ => rfl))) (blkOk_by (N := ["_law_t", "_law_way", "_law_count"]) (sc := defScope s_law_rises) (by decide +kernel)) (fun _ _ _ _ _ => (pg_tup rfl (pgs_cons (pg_name (i := 1) nd rfl (Or.inl rfl)) (pgs_cons (pg_name (i := 2) nd rfl (Or.inl rfl)) pgs_nil)))) (fun _ _ _ _ _ => pts_nil) (fun _ _ _ _ _ => (pe_ifExp (pt_cmpR op_eq (pv 1) pe_str (nomark _)) (pv 2) (pe_op op_sub pe_int (pv 2))))))), by with_unfolding_all exact pure_law_rises  vs H Q E h⟩
theorem ok_law_heir (T : Tw K mg) (c_law_rises : Cl P w K mg base 1 "_law_rises" (sp_law_rises K) []) (F : ∃ fd, FnT K "_law_heir" "_law_heir" s_law_heir [] (He.ga K "_law_heir") fd) : Cl P w K mg base 2 "_law_heir" (sp_law_heir K) [] := by
  refine cl_of F T.d_law_heir sc_law_heir (fun vs H Q E h => ?_) (fun _ _ _ _ _ _ us hl => match us, hl with | [_, _], _ => rfl) (fun cdv A outer s H vs Q E hr h => ?_)
  · unfold sp_law_heir at h
    repeat (first | (obtain ⟨rfl, _⟩ := h; rfl) | (obtain ⟨_, h⟩ := h))
  · have nd := sc_law_heir.nd
    exact ⟨_, (pss_cons (ps_set (i := 2) nd rfl (Or.inl rfl) (pe_cl c_law_rises hr (by omega) rfl passL (pa_cons (pv 0) pa_nil)))
      (pss_cons (ps_set (i := 3) nd rfl (Or.inl rfl) pe_int)
      (pss_cons (ps_for ownsE rfl (pi_range2 rfl T.f_range (pa_cons (pe_op op_add (pe_ix ix_tup (pv 0) pe_int (fun _ _ => rfl)) pe_int) (pa_cons (pe_op op_add (pv 1) pe_int) pa_nil))) (pg_name (i := 4) nd rfl (Or.inl rfl))
      (pss_one (ps_set (i := 3) nd rfl (Or.inl rfl) (pe_op op_mod (pe_op op_add (pv 3) (pe_ix ix_list (pv 2) (pe_op op_mod (pe_op op_sub (pv 1) (pv 4)) (pe_callB call_len_seq rfl T.f_len (by decide +kernel) (pa_cons (pv 2) pa_nil))) (fun _ _ => rfl))) (pv 4)))))
      (pss_one (ps_ret (pv 3)))))), by with_unfolding_all exact pure_law_heir  vs H Q E h⟩
theorem ok_heir (T : Tw K mg) (c_need_number : Cl P w K mg base 2 "need_number" (sp_need_number K) [(.int 1000000000000000000000000000000)]) (c_need_numberF : Cl P w K mg base 2 "need_number" (sp_need_number K) []) (c_lifted : Cl P w K mg base 3 "lifted" (sp_lifted K) []) (F : ∃ fd, FnT K "heir" "heir" s_heir [] (He.ga K "heir") fd) : Cl P w K mg base 4 "heir" (sp_heir K) [] := by
  refine cl_of F T.d_heir sc_heir (fun vs H Q E h => ?_) (fun _ _ _ _ _ _ us hl => match us, hl with | [_, _], _ => rfl) (fun cdv A outer s H vs Q E hr h => ?_)
  · unfold sp_heir at h
    repeat (first | (obtain ⟨rfl, _⟩ := h; rfl) | (obtain ⟨_, h⟩ := h))
  · have nd := sc_heir.nd
    exact ⟨_, (pss_cons (ps_expr (pe_cl c_need_number hr (by omega) rfl passE (pa_cons (pv 0) (pa_cons (pv 1) pa_nil))))
      (pss_one (ps_ret (pe_cl c_lifted hr (by omega) rfl passE (pa_cons (pv 0) (pa_cons pe_int (pa_cons (pe_fld (pv 0) rfl) (pa_cons (pv 1) pa_nil)))))))), by with_unfolding_all exact pure_heir T.rh vs H Q E h⟩
theorem ok_law_at (T : Tw K mg) (c_law_heir : Cl P w K mg base 2 "_law_heir" (sp_law_heir K) []) (c_heir : Cl P w K mg base 4 "heir" (sp_heir K) []) (F : ∃ fd, FnT K "_law_at" "_law_at" s_law_at [] (He.ga K "_law_at") fd) : Cl P w K mg base 5 "_law_at" (sp_law_at K) [] := by
  refine cl_of F T.d_law_at sc_law_at (fun vs H Q E h => ?_) (fun _ _ _ _ _ _ us hl => match us, hl with | [_, _, _], _ => rfl) (fun cdv A outer s H vs Q E hr h => ?_)
  · unfold sp_law_at at h
    repeat (first | (obtain ⟨rfl, _⟩ := h; rfl) | (obtain ⟨_, h⟩ := h))
  · have nd := sc_law_at.nd
    exact ⟨_, (pss_one (ps_ret (pe_ifExp (pt_cmpR op_lt (pv 2) pe_int (nomark _)) (pe_cl c_law_heir hr (by omega) rfl passL (pa_cons (pv 0) (pa_cons (pv 2) pa_nil))) (pe_cl c_heir hr (by omega) rfl passL (pa_cons (pv 1) (pa_cons (pv 2) pa_nil)))))), by with_unfolding_all exact pure_law_at  vs H Q E h⟩
theorem ok_law_goes (T : Tw K mg) (c_law_at : Cl P w K mg base 5 "_law_at" (sp_law_at K) []) (c_law_rises : Cl P w K mg base 1 "_law_rises" (sp_law_rises K) []) (F : ∃ fd, FnT K "_law_goes" "_law_goes" s_law_goes [] (He.ga K "_law_goes") fd) : Cl P w K mg base 6 "_law_goes" (sp_law_goes K) [] := by
  refine cl_of F T.d_law_goes sc_law_goes (fun vs H Q E h => ?_) (fun _ _ _ _ _ _ us hl => match us, hl with | [_, _, _], _ => rfl) (fun cdv A outer s H vs Q E hr h => ?_)
  · unfold sp_law_goes at h
    repeat (first | (obtain ⟨rfl, _⟩ := h; rfl) | (obtain ⟨_, h⟩ := h))
  · have nd := sc_law_goes.nd
    exact ⟨_, (pss_cons (ps_set (i := 3) nd rfl (Or.inl rfl) (pe_callB call_len_seq rfl T.f_len (by decide +kernel) (pa_cons (pe_ix ix_tup (pv 0) pe_int (fun _ _ => rfl)) pa_nil)))
      (pss_one (ps_ret (pe_cmpR op_eq (pe_op op_sub (pe_cl c_law_at hr (by omega) rfl passL (pa_cons (pv 0) (pa_cons (pv 1) (pa_cons (pe_op op_add (pv 2) (pv 3)) pa_nil)))) (pe_cl c_law_at hr (by omega) rfl passL (pa_cons (pv 0) (pa_cons (pv 1) (pa_cons (pv 2) pa_nil))))) (pe_callB (cr_sum rfl) rfl T.f_sum (by decide +kernel) (pa_cons (pe_cl c_law_rises hr (by omega) rfl passL (pa_cons (pv 0) pa_nil)) pa_nil)) (nomark _))))), by with_unfolding_all exact pure_law_goes  vs H Q E h⟩
theorem ok_law_spots (T : Tw K mg) (c_law_below : Cl P w K mg base 1 "_law_below" (sp_law_below K) []) (F : ∃ fd, FnT K "_law_spots" "_law_spots" s_law_spots [] (He.ga K "_law_spots") fd) : Cl P w K mg base 2 "_law_spots" (sp_law_spots K) [] := by
  refine cl_of F T.d_law_spots sc_law_spots (fun vs H Q E h => ?_) (fun _ _ _ _ _ _ us hl => match us, hl with | [_, _, _, _], _ => rfl) (fun cdv A outer s H vs Q E hr h => ?_)
  · unfold sp_law_spots at h
    repeat (first | (obtain ⟨rfl, _⟩ := h; rfl) | (obtain ⟨_, h⟩ := h))
  · have nd := sc_law_spots.nd
    exact ⟨_, (pss_cons (ps_set (i := 4) nd rfl (Or.inr rfl) (pe_op op_fdiv (pe_op op_sub (pv 2) (pv 1)) (pv 3)))
      (pss_cons (ps_if (pt_cmpR op_lt (pv 4) pe_int (nomark _)) (pss_one (ps_ret (pe_lc (own := [("_law_k", 6)]) (g := (gName 6)) (tt := tYes) (te := (tOp oAdd (tVar 1) (tOp oMul (tVar 3) (tVar 6)))) rfl nd (pi_range1 rfl T.f_range (pa_cons (pv 4) pa_nil)) (blkOk_by (N := ["_law_d", "_law_first", "_law_last", "_law_many", "_law_steps", "_law_some", "_law_k", "_law_turn"]) (sc := defScope s_law_spots) (by decide +kernel)) (fun _ _ _ _ _ => (pg_name (i := 6) nd rfl (Or.inl rfl))) (fun _ _ _ _ _ => pts_nil) (fun _ _ _ _ _ => (pe_op op_add (pv 1) (pe_op op_mul (pv 3) (pv 6))))))) pss_nil)
      (pss_cons (ps_set (i := 5) nd rfl (Or.inl rfl) (pe_lst (pa_cons pe_int (pa_cons pe_int (pa_cons pe_int (pa_cons pe_int (pa_cons (pe_op op_sub (pv 4) pe_int) (pa_cons (pe_op op_sub (pv 4) pe_int) (pa_cons (pe_op op_sub (pv 4) pe_int) pa_nil)))))))))
      (pss_one (ps_ret (pe_lc (own := [("_law_k", 6)]) (g := (gName 6)) (tt := tYes) (te := (tOp oAdd (tVar 1) (tOp oMul (tVar 3) (tVar 6)))) rfl nd (pi_list (pe_op op_cat (pv 5) (pe_lc (own := [("_law_turn", 7)]) (g := (gName 7)) (tt := tYes) (te := (tCall (sp_law_below K) [] E0 (tCons (tVar 0) (tCons (tVar 4) tNil)))) rfl nd (pi_range1 rfl T.f_range (pa_cons pe_int pa_nil)) (blkOk_by (N := ["_law_d", "_law_first", "_law_last", "_law_many", "_law_steps", "_law_some", "_law_k", "_law_turn"]) (sc := defScope s_law_spots) (by decide +kernel)) (fun _ _ _ _ _ => (pg_name (i := 7) nd rfl (Or.inl rfl))) (fun _ _ _ _ _ => pts_nil) (fun _ _ _ _ _ => (pe_cl c_law_below hr (by omega) rfl passL (pa_cons (pv 0) (pa_cons (pv 4) pa_nil))))))) (blkOk_by (N := ["_law_d", "_law_first", "_law_last", "_law_many", "_law_steps", "_law_some", "_law_k", "_law_turn"]) (sc := defScope s_law_spots) (by decide +kernel)) (fun _ _ _ _ _ => (pg_name (i := 6) nd rfl (Or.inl rfl))) (fun _ _ _ _ _ => pts_nil) (fun _ _ _ _ _ => (pe_op op_add (pv 1) (pe_op op_mul (pv 3) (pv 6)))))))))), by with_unfolding_all exact pure_law_spots  vs H Q E h⟩
theorem ok_law_refusedR (T : Tw K mg) (c_run : Cl P w K mg base 4 "run" (sp_run K) []) (F : ∃ fd, FnT K "_law_refused" "_law_refused" s_law_refused [] (He.ga K "_law_refused") fd) : Cl P w K mg base 5 "_law_refused" (sp_law_refusedR K) [] := by
  refine cl_of F T.d_law_refusedR sc_law_refusedR (fun vs H Q E h => ?_) (fun _ _ _ _ _ _ us hl => match us, hl with | [_, _], _ => rfl) (fun cdv A outer s H vs Q E hr h => ?_)
  · unfold sp_law_refusedR at h
    repeat (first | (obtain ⟨rfl, _⟩ := h; rfl) | (obtain ⟨_, h⟩ := h))
  · have nd := sc_law_refusedR.nd
    exact ⟨_, (pss_cons (ps_set (i := 2) nd rfl (Or.inl rfl) pe_bl)
      (pss_cons (ps_try_many rfl rfl takesE (fun W pn xe tk hpo => (pss_one (ps_expr (pe_clS c_run hr (by omega) rfl (fun σ => passAt tk σ) (by exact (pa_cons (pv 0) (pa_cons (pv 1) pa_nil))))))) (HdsOk.cons ⟨rfl, by decide, .inl T.x_BadNumber.g⟩ (fun a oe cls d pn hz hv => (pss_one (ps_set (i := 2) nd rfl (Or.inl rfl) pe_bl))) HdsOk.nil))
      (pss_one (ps_ret (pv 2))))), by with_unfolding_all exact pure_law_refusedR T.e_bn vs H Q E h⟩
theorem okf_law {fd : FuncData} (T : Tw K mg) (c_law_random : Cl P w K mg base 1 "_law_random" (sp_law_random K) []) (c_law_drawn : Cl P w K mg base 3 "_law_drawn" (sp_law_drawn K) []) (c_law_made : Cl P w K mg base 5 "_law_made" (sp_law_made K) []) (c_law_below : Cl P w K mg base 1 "_law_below" (sp_law_below K) []) (c_law_number : Cl P w K mg base 2 "_law_number" (sp_law_number K) []) (c_law_great : Cl P w K mg base 3 "_law_great" (sp_law_great K) []) (c_run : Cl P w K mg base 4 "run" (sp_run K) []) (c_law_equal : Cl P w K mg base 4 "_law_equal" (sp_law_equal 4 K) []) (c_law_goes : Cl P w K mg base 6 "_law_goes" (sp_law_goes K) []) (c_law_spots : Cl P w K mg base 2 "_law_spots" (sp_law_spots K) []) (c_law_refusedR : Cl P w K mg base 5 "_law_refused" (sp_law_refusedR K) []) (c_law_pick : Cl P w K mg base 2 "_law_pick" (sp_law_pick K) []) (F : FnT K "law" "law" s_law [] (He.ga K "law") fd) : FnOk P w K mg base (L2.CX P w) 7 (He.ga K "law") fd ["_law_script"] (sp_law K) := by
  refine F.ok sc_law (fun vs H Q E h => ?_) (fun cdv A outer s H vs Q E hr h => ?_)
  · unfold sp_law at h
    repeat (first | (obtain ⟨rfl, _⟩ := h; rfl) | (obtain ⟨_, h⟩ := h))
  · have nd := sc_law.nd
    exact ⟨_, (pss_cons (ps_set (i := 1) nd rfl (Or.inl rfl) (pe_cl c_law_random hr (by omega) rfl passL (pa_cons (pv 0) (pa_cons pe_int pa_nil))))
      (pss_cons (ps_set (i := 2) nd rfl (Or.inr rfl) (pe_cl c_law_drawn hr (by omega) rfl passL (pa_cons (pv 1) pa_nil)))
      (pss_cons (ps_set (i := 3) nd rfl (Or.inr rfl) (pe_cl c_law_made hr (by omega) rfl passL (pa_cons (pv 2) pa_nil)))
      (pss_cons (ps_set (i := 4) nd rfl (Or.inr rfl) (pe_callB call_len_seq rfl T.f_len (by decide +kernel) (pa_cons (pe_ix ix_tup (pv 2) pe_int (fun _ _ => rfl)) pa_nil)))
      (pss_cons (ps_set (i := 5) nd rfl (Or.inl rfl) (pe_ifExp (pt_cmpR op_gt (pe_cl c_law_below hr (by omega) rfl passL (pa_cons (pv 1) (pa_cons pe_int pa_nil))) pe_int (nomark _)) (pe_cl c_law_number hr (by omega) rfl passL (pa_cons (pv 1) (pa_cons (pv 2) (pa_cons pe_int pa_nil)))) (pe_callB (cr_min rfl) rfl T.f_min (by decide +kernel) (pa_cons (pe_lst (pa_cons (pe_cl c_law_great hr (by omega) rfl passL (pa_cons (pv 1) pa_nil)) (pa_cons (pe_op op_sub (pe_op op_pow pe_int pe_int) pe_int) pa_nil))) pa_nil))))
      (pss_cons (ps_set (i := 6) nd rfl (Or.inl rfl) (pe_cl c_run hr (by omega) rfl passL (pa_cons (pv 3) (pa_cons (pv 5) pa_nil))))
      (pss_cons (ps_if (PW.pt (pw_or (pt_not (pt_val (pe_callB call_isi rfl T.f_isinstance (by decide +kernel) (pa_cons (pv 6) (pa_cons (pe_bltn (v := .ty "tuple") (u := .type "tuple") rfl T.f_tuple (by decide +kernel) rfl) pa_nil))))) (pw_or (pt_cmpR op_ne (pe_callB call_len_seq rfl T.f_len (by decide +kernel) (pa_cons (pv 6) pa_nil)) pe_int (nomark _)) (pw_or1 (pt_not (pt_val (pe_cl c_law_equal hr (by omega) rfl passL (pa_cons (pe_cl c_run hr (by omega) rfl passL (pa_cons (pv 3) (pa_cons (pe_ix ix_tup (pv 6) pe_int (fun _ _ => rfl)) pa_nil))) (pa_cons (pv 6) pa_nil))))))))) (pss_one (ps_ret pe_bl)) pss_nil)
      (pss_cons (ps_asg (pv 6) (pg_tup rfl (pgs_cons (pg_name (i := 7) nd rfl (Or.inl rfl)) (pgs_cons (pg_name (i := 8) nd rfl (Or.inl rfl)) pgs_nil))))
      (pss_cons (ps_if (PW.pt (pw_or (pt_not (pt_chain op_le op_le (pe_ix ix_tup (pv 2) pe_int (fun _ _ => rfl)) (pv 7) (pv 5))) (pw_or1 (pt_cmpR op_ne (pe_op op_mod (pe_op op_sub (pv 5) (pv 7)) (pv 4)) pe_int (nomark _))))) (pss_one (ps_ret pe_bl)) pss_nil)
      (pss_cons (ps_if (PW.pt (pw_and (pt_cmpR op_ge (pe_op op_sub (pv 7) (pv 4)) (pe_ix ix_tup (pv 2) pe_int (fun _ _ => rfl)) (nomark _)) (pw_and1 (pt_val (pe_cl c_law_goes hr (by omega) rfl passL (pa_cons (pv 2) (pa_cons (pv 3) (pa_cons (pe_op op_sub (pv 7) (pv 4)) pa_nil)))))))) (pss_one (ps_ret pe_bl)) pss_nil)
      (pss_cons (ps_if (pt_cmpR op_isN (pv 8) pe_non (nomark _)) (pss_one (ps_set (i := 8) nd rfl (Or.inl rfl) (pe_op op_sub (pe_callB (cr_max rfl) rfl T.f_max (by decide +kernel) (pa_cons (pe_lst (pa_cons (pv 5) (pa_cons (pe_op op_pow pe_int pe_int) pa_nil))) pa_nil)) (pe_op op_mod (pe_op op_sub (pe_callB (cr_max rfl) rfl T.f_max (by decide +kernel) (pa_cons (pe_lst (pa_cons (pv 5) (pa_cons (pe_op op_pow pe_int pe_int) pa_nil))) pa_nil)) (pv 7)) (pv 4))))) (pss_one (ps_if (PW.pt (pw_or (pt_cmpR op_lt (pv 8) (pv 5) (nomark _)) (pw_or (pt_cmpR op_ne (pe_op op_mod (pe_op op_sub (pv 8) (pv 7)) (pv 4)) pe_int (nomark _)) (pw_or1 (PW.pt (pw_and (pt_cmpR op_le (pe_op op_add (pv 8) (pv 4)) (pe_op op_pow pe_int pe_int) (nomark _)) (pw_and1 (pt_val (pe_cl c_law_goes hr (by omega) rfl passL (pa_cons (pv 2) (pa_cons (pv 3) (pa_cons (pv 8) pa_nil)))))))))))) (pss_one (ps_ret pe_bl)) pss_nil)))
      (pss_cons (ps_setLc (i := 9) (own := [("_law_spot", 10)]) (g := (gName 10)) (tt := (tTest (tOp oLe (tOp oAdd (tVar 10) (tVar 4)) (tOp oPow (tC (.int 10)) (tC (.int 30)))))) (te := (tVar 10)) rfl nd rfl rfl (sw_true rfl rfl rfl (by decide +kernel)) (pi_list (pe_cl c_law_spots hr (by omega) rfl passL (pa_cons (pv 1) (pa_cons (pv 7) (pa_cons (pv 8) (pa_cons (pv 4) pa_nil)))))) (blkOk_by (N := ["_law_script", "_law_d", "_law_t", "_law_rhyme", "_law_many", "_law_n", "_law_told", "_law_first", "_law_last", "_law_spots_here", "_law_spot"]) (sc := defScope s_law) (by decide +kernel)) (fun _ _ _ _ _ => (pg_name (i := 10) nd rfl (Or.inl rfl))) (fun _ _ _ _ _ => (pts_one (pt_cmpR op_le (pe_op op_add (pv 10) (pv 4)) (pe_op op_pow pe_int pe_int) (nomark _)))) (fun _ _ _ _ _ => (pv 10)))
      (pss_cons (ps_if (pt_not (pt_val (pe_callB (cr_all rfl) rfl T.f_all (by decide +kernel) (pa_cons (pe_lc (own := [("_law_spot", 10)]) (g := (gName 10)) (tt := tYes) (te := (tCall (sp_law_goes K) [] E0 (tCons (tVar 2) (tCons (tVar 3) (tCons (tVar 10) tNil))))) rfl nd (pi_list (pv 9)) (blkOk_by (N := ["_law_script", "_law_d", "_law_t", "_law_rhyme", "_law_many", "_law_n", "_law_told", "_law_first", "_law_last", "_law_spots_here", "_law_spot"]) (sc := defScope s_law) (by decide +kernel)) (fun _ _ _ _ _ => (pg_name (i := 10) nd rfl (Or.inl rfl))) (fun _ _ _ _ _ => pts_nil) (fun _ _ _ _ _ => (pe_cl c_law_goes hr (by omega) rfl passL (pa_cons (pv 2) (pa_cons (pv 3) (pa_cons (pv 10) pa_nil)))))) pa_nil)))) (pss_one (ps_ret pe_bl)) pss_nil)
      (pss_one (ps_ret (pe_cl c_law_refusedR hr (by omega) rfl passL (pa_cons (pv 3) (pa_cons (pe_cl c_law_pick hr (by omega) rfl passL (pa_cons (pv 1) (pa_cons (pe_lst (pa_cons (pe_op op_sub (pe_ix ix_tup (pv 2) pe_int (fun _ _ => rfl)) pe_int) (pa_cons pe_non (pa_cons pe_bl (pa_cons pe_str (pa_cons (pe_op op_add (pe_op op_pow pe_int pe_int) pe_int) (pa_cons (pe_tup (pa_cons pe_int pa_nil)) pa_nil))))))) pa_nil))) pa_nil)))))))))))))))))), by with_unfolding_all exact pure_law  vs H Q E h⟩
end
end Z
namespace Z
open PySem PySem.Spec PyProof.Rows L2
def fn : List He.DefD := [
  ⟨("_law_random", none), "_law_random", "_law_random", defArgs s_law_random, defBody s_law_random, defScope s_law_random, [], []⟩,
  ⟨("_law_below", none), "_law_below", "_law_below", defArgs s_law_below, defBody s_law_below, defScope s_law_below, [], []⟩,
  ⟨("_law_pick", none), "_law_pick", "_law_pick", defArgs s_law_pick, defBody s_law_pick, defScope s_law_pick, [], []⟩,
  ⟨("_law_drawn", none), "_law_drawn", "_law_drawn", defArgs s_law_drawn, defBody s_law_drawn, defScope s_law_drawn, [], []⟩,
  ⟨("is_between", none), "is_between", "is_between", defArgs s_is_between, defBody s_is_between, defScope s_is_between, [], []⟩,
  ⟨("is_verse", none), "is_verse", "is_verse", defArgs s_is_verse, defBody s_is_verse, defScope s_is_verse, [], []⟩,
  ⟨("Rhyme", some "__init__"), "__init__", "Rhyme.__init__", defArgs s_Rhymeu_initu, defBody s_Rhymeu_initu, defScope s_Rhymeu_initu, [], []⟩,
  ⟨("_law_made", none), "_law_made", "_law_made", defArgs s_law_made, defBody s_law_made, defScope s_law_made, [], []⟩,
  ⟨("_law_number", none), "_law_number", "_law_number", defArgs s_law_number, defBody s_law_number, defScope s_law_number, [], []⟩,
  ⟨("_law_great", none), "_law_great", "_law_great", defArgs s_law_great, defBody s_law_great, defScope s_law_great, [], []⟩,
  ⟨("need_number", none), "need_number", "need_number", defArgs s_need_number, defBody s_need_number, defScope s_need_number, [.int 1000000000000000000000000000000], []⟩,
  ⟨("row_ahead", none), "row_ahead", "row_ahead", defArgs s_row_ahead, defBody s_row_ahead, defScope s_row_ahead, [], []⟩,
  ⟨("sums_of", none), "sums_of", "sums_of", defArgs s_sums_of, defBody s_sums_of, defScope s_sums_of, [], []⟩,
  ⟨("times_above", none), "times_above", "times_above", defArgs s_times_above, defBody s_times_above, defScope s_times_above, [], []⟩,
  ⟨("least_of", none), "least_of", "least_of", defArgs s_least_of, defBody s_least_of, defScope s_least_of, [], []⟩,
  ⟨("climbs", none), "climbs", "climbs", defArgs s_climbs, defBody s_climbs, defScope s_climbs, [], []⟩,
  ⟨("does_stay", none), "does_stay", "does_stay", defArgs s_does_stay, defBody s_does_stay, defScope s_does_stay, [], []⟩,
  ⟨("beside", none), "beside", "beside", defArgs s_beside, defBody s_beside, defScope s_beside, [], []⟩,
  ⟨("lifted", none), "lifted", "lifted", defArgs s_lifted, defBody s_lifted, defScope s_lifted, [], []⟩,
  ⟨("run", none), "run", "run", defArgs s_run, defBody s_run, defScope s_run, [], []⟩,
  ⟨("_law_equal", none), "_law_equal", "_law_equal", defArgs s_law_equal, defBody s_law_equal, defScope s_law_equal, [], []⟩,
  ⟨("_law_rises", none), "_law_rises", "_law_rises", defArgs s_law_rises, defBody s_law_rises, defScope s_law_rises, [], []⟩,
  ⟨("_law_heir", none), "_law_heir", "_law_heir", defArgs s_law_heir, defBody s_law_heir, defScope s_law_heir, [], []⟩,
  ⟨("heir", none), "heir", "heir", defArgs s_heir, defBody s_heir, defScope s_heir, [], []⟩,
  ⟨("_law_at", none), "_law_at", "_law_at", defArgs s_law_at, defBody s_law_at, defScope s_law_at, [], []⟩,
  ⟨("_law_goes", none), "_law_goes", "_law_goes", defArgs s_law_goes, defBody s_law_goes, defScope s_law_goes, [], []⟩,
  ⟨("_law_spots", none), "_law_spots", "_law_spots", defArgs s_law_spots, defBody s_law_spots, defScope s_law_spots, [], []⟩,
  ⟨("_law_refused", none), "_law_refused", "_law_refused", defArgs s_law_refused, defBody s_law_refused, defScope s_law_refused, [], []⟩,
  ⟨("law", none), "law", "law", defArgs s_law, defBody s_law, defScope s_law, [], []⟩]
def fa0 : List He.Fa := [.str "BACK" "back", .int "FEW" 64, .int "MOST_COUNT" 6, .int "MOST_LEFT" 3, .int "MOST_VERSES" 4, .str "ON" "on", .exc "BadNumber", .glo "BadNumber", .free "abs", .free "all", .free "bool", .free "dict", .free "enumerate", .free "int", .free "isinstance", .free "len", .free "list", .free "max", .free "min", .free "range", .free "sorted", .free "str", .free "sum", .free "tuple", .glo "Rhyme", .glo "_law_random", .glo "_law_below", .glo "_law_pick", .glo "_law_drawn", .glo "is_between"]
def fa1 : List He.Fa := [.glo "is_verse", .glo "_law_made", .glo "_law_number", .glo "_law_great", .glo "need_number", .glo "row_ahead", .glo "sums_of", .glo "times_above", .glo "least_of", .glo "climbs", .glo "does_stay", .glo "beside", .glo "lifted", .glo "run", .glo "_law_equal", .glo "_law_rises", .glo "_law_heir", .glo "heir", .glo "_law_at", .glo "_law_goes", .glo "_law_spots", .glo "_law_refused", .glo "law", .cls "Rhyme", .noat "Rhyme" "own_verses", .noat "Rhyme" "own_left", .noat "Rhyme" "rises", .mkr "Rhyme", .exm "BadNumber" "BadNumber" true]
def fa : List He.Fa := fa0 ++ fa1
def exB (K : PySem.W.Frag) : Bool := true
def loose0 : List PySem.Str := ["_wall", "__name__", "RhymeError", "BadVerses", "BadLeft", "BadNumber", "__name__", "ON", "BACK", "MOST_COUNT", "MOST_VERSES", "MOST_LEFT", "GREATEST", "is_between", "is_verse", "Rhyme", "need_number", "__name__", "FEW", "sums_of", "times_above", "least_of", "climbs", "beside", "does_stay", "row_ahead", "lifted", "heir", "run", "__name__"]
def loose1 : List PySem.Str := ["_law_random", "_law_below", "_law_pick", "_law_equal", "_law_drawn", "_law_made", "_law_number", "_law_great", "_law_rises", "_law_heir", "_law_at", "_law_goes", "_law_spots", "_law_refused"]
def loose : List PySem.Str := loose0 ++ loose1
abbrev R : PySem.W.OpenRow := PySem.W.OpenLaw.row PySem.Challenge.rw_outrhymes_k03_whole_runs
abbrev hk : PySem.W.Hook := He.hookX 6 fa fn [] [] exB
def ob (s : PySem.W.SharedT) : He.AlX := He.obsX 6 fa fn [] [] exB (HandSHeadRun.getT s)
theorem ob_eq (s : PySem.W.SharedT) : ob s = hk.obs s.abs := He.obsX_eq (HandSHeadRun.getT_eq s)
theorem run (w : World) : HandSHeadRun.RunEq R (PySem.W.view R.prog [44]) hk ob 4000 loose w := by
  intro os
  kernel_rfl
theorem tw_of {K : PySem.W.Frag} {h : Heap} {mg : Str → Option Value} (X : K.In h) (G : h.Ns mainGlobals mg) (c : He.SaysD fa fn K) (e : exB K = true) : Tw K mg := by
  have gl : ∀ {x : Str}, He.Fa.glo x ∈ fa → mg x = some (.ref (He.ga K x)) := fun hx => He.glo_ok X G (c.facts hx)
  have fr : ∀ {x : Str}, He.Fa.free x ∈ fa → mg x = none := fun hx => He.free_ok X G (c.facts hx)
  have it : ∀ {x : Str} {i : Int}, He.Fa.int x i ∈ fa → ∃ u, mg x = some u ∧ RelV (.int i) u := fun hx => by
    obtain ⟨t, e⟩ := He.int_ok X G (c.facts hx)
    exact ⟨_, e, t, rfl⟩
  have sr : ∀ {x z : Str}, He.Fa.str x z ∈ fa → ∃ u, mg x = some u ∧ RelV (.str z) u := fun hx => by
    obtain ⟨t, e⟩ := He.str_ok X G (c.facts hx)
    exact ⟨_, e, t, rfl⟩
  have xc : ∀ {x : Str}, He.Fa.exc x ∈ fa → He.Fa.glo x ∈ fa → XcK K mg x := fun hx hg => by
    obtain ⟨a1, a2, a3, a4⟩ := He.exc_ok (c.facts hx)
    exact ⟨a1, a2, a3, a4, gl hg⟩
  have gc : ∀ {x : Str}, He.Fa.glo x ∈ fa → ∃ u, mg x = some u ∧ RelV (.ref (He.ga K x)) u := fun hx => ⟨_, gl hx, rfl⟩

  exact {
    k_BACK := sr (by simp [fa, fa0, fa1])
    k_FEW := it (by simp [fa, fa0, fa1])
    k_MOST_COUNT := it (by simp [fa, fa0, fa1])
    k_MOST_LEFT := it (by simp [fa, fa0, fa1])
    k_MOST_VERSES := it (by simp [fa, fa0, fa1])
    k_ON := sr (by simp [fa, fa0, fa1])
    x_BadNumber := xc (by simp [fa, fa0, fa1]) (by simp [fa, fa0, fa1])
    f_abs := fr (by simp [fa, fa0, fa1])
    f_all := fr (by simp [fa, fa0, fa1])
    f_bool := fr (by simp [fa, fa0, fa1])
    f_dict := fr (by simp [fa, fa0, fa1])
    f_enumerate := fr (by simp [fa, fa0, fa1])
    f_int := fr (by simp [fa, fa0, fa1])
    f_isinstance := fr (by simp [fa, fa0, fa1])
    f_len := fr (by simp [fa, fa0, fa1])
    f_list := fr (by simp [fa, fa0, fa1])
    f_max := fr (by simp [fa, fa0, fa1])
    f_min := fr (by simp [fa, fa0, fa1])
    f_range := fr (by simp [fa, fa0, fa1])
    f_sorted := fr (by simp [fa, fa0, fa1])
    f_str := fr (by simp [fa, fa0, fa1])
    f_sum := fr (by simp [fa, fa0, fa1])
    f_tuple := fr (by simp [fa, fa0, fa1])
    g_Rhyme := gl (by simp [fa, fa0, fa1])
    d_law_random := gl (by simp [fa, fa0, fa1])
    d_law_below := gl (by simp [fa, fa0, fa1])
    d_law_pick := gl (by simp [fa, fa0, fa1])
    d_law_drawn := gl (by simp [fa, fa0, fa1])
    d_is_between := gl (by simp [fa, fa0, fa1])
    d_is_verse := gl (by simp [fa, fa0, fa1])
    d_law_made := gl (by simp [fa, fa0, fa1])
    d_law_number := gl (by simp [fa, fa0, fa1])
    d_law_great := gl (by simp [fa, fa0, fa1])
    d_need_number := gl (by simp [fa, fa0, fa1])
    d_row_ahead := gl (by simp [fa, fa0, fa1])
    d_sums_of := gl (by simp [fa, fa0, fa1])
    d_times_above := gl (by simp [fa, fa0, fa1])
    d_least_of := gl (by simp [fa, fa0, fa1])
    d_climbs := gl (by simp [fa, fa0, fa1])
    d_does_stay := gl (by simp [fa, fa0, fa1])
    d_beside := gl (by simp [fa, fa0, fa1])
    d_lifted := gl (by simp [fa, fa0, fa1])
    d_run := gl (by simp [fa, fa0, fa1])
    d_law_equal := gl (by simp [fa, fa0, fa1])
    d_law_rises := gl (by simp [fa, fa0, fa1])
    d_law_heir := gl (by simp [fa, fa0, fa1])
    d_heir := gl (by simp [fa, fa0, fa1])
    d_law_at := gl (by simp [fa, fa0, fa1])
    d_law_goes := gl (by simp [fa, fa0, fa1])
    d_law_spots := gl (by simp [fa, fa0, fa1])
    d_law_refusedR := gl (by simp [fa, fa0, fa1])
    d_law := gl (by simp [fa, fa0, fa1])
    rh := ⟨He.cls_ok (c.facts (by simp [fa, fa0, fa1])), He.noat_ok (c.facts (by simp [fa, fa0, fa1])), He.noat_ok (c.facts (by simp [fa, fa0, fa1])), He.noat_ok (c.facts (by simp [fa, fa0, fa1]))⟩
    mk_Rhyme := c.facts (by simp [fa, fa0, fa1])
    e_bn := He.exm_ok (c.facts (by simp [fa, fa0, fa1])) }
theorem facts_of {P : Program} {w : World} {K : PySem.W.Frag} {h : Heap} {mg : Str → Option Value} {f : Addr} (X : K.In h) (G : h.Ns mainGlobals mg) (hfa : mg ("law" : Str) = some (.ref f)) (c : He.SaysD fa fn K) (e : exB K = true) :
    ∃ fd : FuncData, (∀ (s : Shared) (v : Value), BindsTo s fd ⟨[v], []⟩ [("_law_script", v)]) ∧ ∀ base : Heap, K.In base → base.Ns mainGlobals mg → FnOk P w K mg base (L2.CX P w) 7 f fd ["_law_script"] (sp_law K) := by
  have T : Tw K mg := tw_of X G c e
  have ef := hfa.symm.trans T.d_law
  cases ef
  have F_law_random := c.def_ 0 (d := ⟨("_law_random", none), "_law_random", "_law_random", defArgs s_law_random, defBody s_law_random, defScope s_law_random, [], []⟩) rfl
  have F_law_below := c.def_ 1 (d := ⟨("_law_below", none), "_law_below", "_law_below", defArgs s_law_below, defBody s_law_below, defScope s_law_below, [], []⟩) rfl
  have F_law_pick := c.def_ 2 (d := ⟨("_law_pick", none), "_law_pick", "_law_pick", defArgs s_law_pick, defBody s_law_pick, defScope s_law_pick, [], []⟩) rfl
  have F_law_drawn := c.def_ 3 (d := ⟨("_law_drawn", none), "_law_drawn", "_law_drawn", defArgs s_law_drawn, defBody s_law_drawn, defScope s_law_drawn, [], []⟩) rfl
  have F_is_between := c.def_ 4 (d := ⟨("is_between", none), "is_between", "is_between", defArgs s_is_between, defBody s_is_between, defScope s_is_between, [], []⟩) rfl
  have F_is_verse := c.def_ 5 (d := ⟨("is_verse", none), "is_verse", "is_verse", defArgs s_is_verse, defBody s_is_verse, defScope s_is_verse, [], []⟩) rfl
  have F_Rhymeu_initu := c.def_ 6 (d := ⟨("Rhyme", some "__init__"), "__init__", "Rhyme.__init__", defArgs s_Rhymeu_initu, defBody s_Rhymeu_initu, defScope s_Rhymeu_initu, [], []⟩) rfl
  have F_law_made := c.def_ 7 (d := ⟨("_law_made", none), "_law_made", "_law_made", defArgs s_law_made, defBody s_law_made, defScope s_law_made, [], []⟩) rfl
  have F_law_number := c.def_ 8 (d := ⟨("_law_number", none), "_law_number", "_law_number", defArgs s_law_number, defBody s_law_number, defScope s_law_number, [], []⟩) rfl
  have F_law_great := c.def_ 9 (d := ⟨("_law_great", none), "_law_great", "_law_great", defArgs s_law_great, defBody s_law_great, defScope s_law_great, [], []⟩) rfl
  have F_need_number := c.def_ 10 (d := ⟨("need_number", none), "need_number", "need_number", defArgs s_need_number, defBody s_need_number, defScope s_need_number, [.int 1000000000000000000000000000000], []⟩) rfl
  have F_row_ahead := c.def_ 11 (d := ⟨("row_ahead", none), "row_ahead", "row_ahead", defArgs s_row_ahead, defBody s_row_ahead, defScope s_row_ahead, [], []⟩) rfl
  have F_sums_of := c.def_ 12 (d := ⟨("sums_of", none), "sums_of", "sums_of", defArgs s_sums_of, defBody s_sums_of, defScope s_sums_of, [], []⟩) rfl
  have F_times_above := c.def_ 13 (d := ⟨("times_above", none), "times_above", "times_above", defArgs s_times_above, defBody s_times_above, defScope s_times_above, [], []⟩) rfl
  have F_least_of := c.def_ 14 (d := ⟨("least_of", none), "least_of", "least_of", defArgs s_least_of, defBody s_least_of, defScope s_least_of, [], []⟩) rfl
  have F_climbs := c.def_ 15 (d := ⟨("climbs", none), "climbs", "climbs", defArgs s_climbs, defBody s_climbs, defScope s_climbs, [], []⟩) rfl
  have F_does_stay := c.def_ 16 (d := ⟨("does_stay", none), "does_stay", "does_stay", defArgs s_does_stay, defBody s_does_stay, defScope s_does_stay, [], []⟩) rfl
  have F_beside := c.def_ 17 (d := ⟨("beside", none), "beside", "beside", defArgs s_beside, defBody s_beside, defScope s_beside, [], []⟩) rfl
  have F_lifted := c.def_ 18 (d := ⟨("lifted", none), "lifted", "lifted", defArgs s_lifted, defBody s_lifted, defScope s_lifted, [], []⟩) rfl
  have F_run := c.def_ 19 (d := ⟨("run", none), "run", "run", defArgs s_run, defBody s_run, defScope s_run, [], []⟩) rfl
  have F_law_equal := c.def_ 20 (d := ⟨("_law_equal", none), "_law_equal", "_law_equal", defArgs s_law_equal, defBody s_law_equal, defScope s_law_equal, [], []⟩) rfl
  have F_law_rises := c.def_ 21 (d := ⟨("_law_rises", none), "_law_rises", "_law_rises", defArgs s_law_rises, defBody s_law_rises, defScope s_law_rises, [], []⟩) rfl
  have F_law_heir := c.def_ 22 (d := ⟨("_law_heir", none), "_law_heir", "_law_heir", defArgs s_law_heir, defBody s_law_heir, defScope s_law_heir, [], []⟩) rfl
  have F_heir := c.def_ 23 (d := ⟨("heir", none), "heir", "heir", defArgs s_heir, defBody s_heir, defScope s_heir, [], []⟩) rfl
  have F_law_at := c.def_ 24 (d := ⟨("_law_at", none), "_law_at", "_law_at", defArgs s_law_at, defBody s_law_at, defScope s_law_at, [], []⟩) rfl
  have F_law_goes := c.def_ 25 (d := ⟨("_law_goes", none), "_law_goes", "_law_goes", defArgs s_law_goes, defBody s_law_goes, defScope s_law_goes, [], []⟩) rfl
  have F_law_spots := c.def_ 26 (d := ⟨("_law_spots", none), "_law_spots", "_law_spots", defArgs s_law_spots, defBody s_law_spots, defScope s_law_spots, [], []⟩) rfl
  have F_law_refusedR := c.def_ 27 (d := ⟨("_law_refused", none), "_law_refused", "_law_refused", defArgs s_law_refused, defBody s_law_refused, defScope s_law_refused, [], []⟩) rfl
  have F_law := c.def_ 28 (d := ⟨("law", none), "law", "law", defArgs s_law, defBody s_law, defScope s_law, [], []⟩) rfl
  obtain ⟨fd, F⟩ := F_law
  have b := FunD.bindsA (ps := ["_law_script"]) F fun _ _ _ _ _ _ us hl => match us, hl with | [_], _ => rfl
  refine ⟨fd, fun s v => b s [v] rfl, fun base _ _ => ?_⟩
  have c_law_random : Cl P w K mg base 1 "_law_random" (sp_law_random K) [] := ok_law_random T  F_law_random
  have c_law_below : Cl P w K mg base 1 "_law_below" (sp_law_below K) [] := ok_law_below T  F_law_below
  have c_law_pick : Cl P w K mg base 2 "_law_pick" (sp_law_pick K) [] := ok_law_pick T c_law_below F_law_pick
  have c_law_drawn : Cl P w K mg base 3 "_law_drawn" (sp_law_drawn K) [] := ok_law_drawn T c_law_below c_law_pick F_law_drawn
  have c_is_between : Cl P w K mg base 1 "is_between" (sp_is_between K) [] := ok_is_between T  F_is_between
  have c_is_verse : Cl P w K mg base 2 "is_verse" (sp_is_verse K) [] := ok_is_verse T c_is_between F_is_verse
  have c_Rhymeu_initu : Ck P w K mg base 3 "Rhyme" (He.ga K "Rhyme") (sp_Rhymeu_initu K) := ok_Rhymeu_initu T c_is_verse c_is_between F_Rhymeu_initu
  have c_law_made : Cl P w K mg base 5 "_law_made" (sp_law_made K) [] := ok_law_made T c_Rhymeu_initu F_law_made
  have c_law_number : Cl P w K mg base 2 "_law_number" (sp_law_number K) [] := ok_law_number T c_law_below F_law_number
  have c_law_great : Cl P w K mg base 3 "_law_great" (sp_law_great K) [] := ok_law_great T c_law_pick c_law_below F_law_great
  have c_need_number : Cl P w K mg base 2 "need_number" (sp_need_number K) [(.int 1000000000000000000000000000000)] := ok_need_number T c_is_between F_need_number
  have c_need_numberF : Cl P w K mg base 2 "need_number" (sp_need_number K) [] := ok_need_numberF T c_is_between F_need_number
  have c_row_ahead : Cl P w K mg base 1 "row_ahead" (sp_row_ahead K) [] := ok_row_ahead T  F_row_ahead
  have c_sums_of : Cl P w K mg base 1 "sums_of" (sp_sums_of K) [] := ok_sums_of T  F_sums_of
  have c_times_above : Cl P w K mg base 1 "times_above" (sp_times_above K) [] := ok_times_above T  F_times_above
  have c_least_of : Cl P w K mg base 1 "least_of" (sp_least_of K) [] := ok_least_of T  F_least_of
  have c_climbs : Cl P w K mg base 2 "climbs" (sp_climbs K) [] := ok_climbs T c_times_above c_least_of F_climbs
  have c_does_stay : Cl P w K mg base 1 "does_stay" (sp_does_stay K) [] := ok_does_stay T  F_does_stay
  have c_beside : Cl P w K mg base 1 "beside" (sp_beside K) [] := ok_beside T  F_beside
  have c_lifted : Cl P w K mg base 3 "lifted" (sp_lifted K) [] := ok_lifted T c_row_ahead c_sums_of c_climbs c_does_stay c_beside F_lifted
  have c_run : Cl P w K mg base 4 "run" (sp_run K) [] := ok_run T c_need_number c_need_numberF c_lifted c_row_ahead c_climbs c_sums_of c_does_stay c_beside F_run
  have c_law_equal : Cl P w K mg base 4 "_law_equal" (sp_law_equal 4 K) [] := ok_law_equal T  F_law_equal
  have c_law_rises : Cl P w K mg base 1 "_law_rises" (sp_law_rises K) [] := ok_law_rises T  F_law_rises
  have c_law_heir : Cl P w K mg base 2 "_law_heir" (sp_law_heir K) [] := ok_law_heir T c_law_rises F_law_heir
  have c_heir : Cl P w K mg base 4 "heir" (sp_heir K) [] := ok_heir T c_need_number c_need_numberF c_lifted F_heir
  have c_law_at : Cl P w K mg base 5 "_law_at" (sp_law_at K) [] := ok_law_at T c_law_heir c_heir F_law_at
  have c_law_goes : Cl P w K mg base 6 "_law_goes" (sp_law_goes K) [] := ok_law_goes T c_law_at c_law_rises F_law_goes
  have c_law_spots : Cl P w K mg base 2 "_law_spots" (sp_law_spots K) [] := ok_law_spots T c_law_below F_law_spots
  have c_law_refusedR : Cl P w K mg base 5 "_law_refused" (sp_law_refusedR K) [] := ok_law_refusedR T c_run F_law_refusedR
  exact okf_law T c_law_random c_law_drawn c_law_made c_law_below c_law_number c_law_great c_run c_law_equal c_law_goes c_law_spots c_law_refusedR c_law_pick F
end Z
open PySem PySem.W PySem.Calls PyProof.Rows
theorem PySem.Challenge.cw_outrhymes_k03_whole_runs_holds : PySem.Challenge.rw_outrhymes_k03_whole_runs.Holds := by
  w_on; o_law
  refine HandSHeadRun.head_any (r := OpenLaw.row PySem.Challenge.rw_outrhymes_k03_whole_runs) (q := view (OpenLaw.row PySem.Challenge.rw_outrhymes_k03_whole_runs).prog [44]) (H := Z.hk) (ob := Z.ob) (M := 4000) (loose := Z.loose) (d := HandSHeadRun.topDef (OpenLaw.row PySem.Challenge.rw_outrhymes_k03_whole_runs).prog 44) (kwd := []) Z.ob_eq
    (by kernel_rfl) (fun s => by kernel_rfl) Z.run (by kernel_rfl) (by kernel_rfl) (by kernel_rfl) (by rfl) (by first | assumption | decide +kernel) (by decide +kernel) ⟨rfl, rfl, rfl, rfl, rfl, by decide +kernel⟩ ?hw ?hc
  case hw => w_witness2
  case hc =>
    refine Z.walk_ofW (CW := fun w => L2.CX (PySem.Challenge.rw_outrhymes_k03_whole_runs).prog w) (ll := PySem.Challenge.rw_outrhymes_k03_whole_runs) (mm := 63) (lv := 7) (arg := "_law_script") rfl (by decide) (by kernel_rfl) (by exact ⟨rfl, by decide, by decide⟩) ?F ?CX
    case CX => exact fun w H s e s' z => Z.noout z
    case F =>
      intro w mg fa h Y G hmg0
      obtain ⟨K, KX, c⟩ := Y
      have hmg : mg ("law" : PySem.Str) = some (.ref fa) := by
        have e : (HandSHeadRun.topDef (OpenLaw.row PySem.Challenge.rw_outrhymes_k03_whole_runs).prog 44).name = ("law" : PySem.Str) := by kernel_rfl
        rw [← e]
        exact hmg0
      obtain ⟨fd, hb, hF⟩ := Z.facts_of (P := (PySem.Challenge.rw_outrhymes_k03_whole_runs).prog) (w := w) KX G hmg c.t.d c.more
      exact ⟨K, fd, Z.sp_law K, KX, hb, fun H a ns hl hS => Z.law_pre a ns hS hl, hF⟩
